-- texts of this session, merged by a program of it (wip/gen/pack.py)
import Derived.Test.YthipjoioicmcnaaKFnExactHoldsFront1
import Derived.Test.YthipjoioicmcnaaKFnExactHoldsFront2
import Derived.Test.YthipjoioicmcnaaKFnExactHoldsFront7
namespace Go.Proofs.Ythipjoioicmcnaa.G
open Go.Proofs.Ythipjoioicmcnaa.Sh
open Go.RowKit Go.Proofs.YthipjoioicmcnaaW.PrintWords Go.Proofs.YthipjoioicmcnaaW.PrintLast Go.Proofs.YthipjoioicmcnaaW.PrintMore
attribute [local go_sem] max2_int min2_int max_two min_two max_three min_three max_four min_four
set_option linter.unusedVariables false
set_option linter.unusedSimpArgs false
def spec_l05Bits.l0:Nat→List (S66)→Int→Int→Option (Int)
 | 0,_,_,_=>none
 | k + 1,x0,x3,x4=>if x4 < (x0.length:Int) then (if 0≤x4 then ((spec_l01In.f ((rd_T66 x0 x4).f2) 1 8).bind fun A3=>(if A3=true then (spec_l05Bits.l0 k x0 (wrap64 (x3 + ((rd_T66 x0 x4).f2))) (wrap64 (x4 + 1))) else (some 13))) else (none)) else (some x3)
def spec_l05Bits.f (k:Nat) (l0:List (S66)):Option (Int):=spec_l05Bits.l0 k l0 0 0
set_option maxHeartbeats 8000000 in
set_option maxRecDepth 100000 in
theorem spec_l05Bits.calls (k:Nat) (A0:Option Addr) (c0:Nat) (l0:List (S66)) (r:Int) (w:World) (hr0:Kd.C k66 w A0 l0.length l0) (hc0:l0.length≤c0) (h:spec_l05Bits.f k l0=some r) :
  Calls Try.prog 80 #[.slice A0 l0.length c0] w fun e w'=>e = .returned (.int .i64 r)∧Drawn0 w w':=by
 have HR0:=Aside0.mk hr0;have HC0:=Aside0.mk hc0;clear hr0 hc0;have H:(spec_l05Bits.l0 k l0 0 0)=some r:=h;clear h;have H':=Aside0.mk H;clear H
 go_enter Try.func80,Try.ntmps80
 go_wp2
 go_loopg [3,4] k (fun kq v3 v4 w'=>∃ (A2:Int) (A1:Int),v3 = .int .i64 A2∧v4 = .int .i64 A1∧Aside0 (spec_l05Bits.l0 kq l0 A2 A1=some r)∧Aside0 (kq≤k)∧Drawn0 w w')
 case atStart=>exact ⟨(0),(0),(by first|rfl|(simp;done)|(simp [*];done)),(by first|rfl|(simp;done)|(simp [*];done)),H',⟨Nat.le_refl _⟩,by repeat (first|exact Drawn0.refl _|apply Drawn0.step)⟩
 case round =>
  clear H';obtain ⟨A2,A1,rfl,rfl,HA,HK1,⟨m1,rfl⟩⟩:=hrel
  cases gk with
  | zero=>exact absurd HA.out (by simp [spec_l05Bits.l0])
  | succ k1 =>
   have H:=HA.out;clear HA;simp only [spec_l05Bits.l0] at H
   by_cases c2:A1 < (l0.length:Int)
   ·rw [if_pos c2] at H;have c2b0:decide (A1 < (l0.length:Int))=true:=decide_eq_true c2;clear c2
    by_cases c3:0≤A1
    ·rw [if_pos c3] at H;have c3b0:decide (0≤A1)=true:=decide_eq_true c3;clear c3;replace H:=ob H;obtain ⟨A3,A40,H⟩:=H;replace H:(if A3=true then (spec_l05Bits.l0 k1 l0 (wrap64 (A2 + ((rd_T66 l0 A1).f2))) (wrap64 (A1 + 1))) else (some 13))=some r:=H;have A4:=Aside0.mk A40;clear A40
     by_cases c5:A3=true
     ·subst c5
      have H1:(spec_l05Bits.l0 k1 l0 (wrap64 (A2 + ((rd_T66 l0 A1).f2))) (wrap64 (A1 + 1)))=some r:=by rw [if_pos rfl] at H;exact H
      clear H;have H:=H1;clear H1;have H':=Aside0.mk H;clear H;have p101:0≤(A1:Int):=od;have q101:A1 < (l0.length:Int):=od;obtain ⟨ad101,e101,hx101_0,hx101_1,hx101_2⟩:=at_T66 HR0.out A1 p101 q101;cases e101;replace p101:=eq_true p101;replace q101:=eq_true q101;go_wp2_with (first|((with_reducible refine gate_callee (f:=69) rfl ?_);refine goesL_ (some 16) rfl rfl Try.func69 (by kernel_rfl) rfl #[.int .i64 ((rd_T66 l0 A1).f2),.int .i64 1,.int .i64 8] rfl ml ?_;(with_reducible refine (spec_l01In.calls ((rd_T66 l0 A1).f2) 1 8 true _ A4.out).mono ?_);rintro e w' ⟨rfl,⟨nd,rfl⟩⟩;refine ⟨_,rfl,?_⟩;have p103:0≤(A1:Int):=od;have q103:A1 < (l0.length:Int):=od;obtain ⟨ad103,e103,hx103_0,hx103_1,hx103_2⟩:=at_T66 HR0.out A1 p103 q103;obtain rfl:ad101=ad103:=(by injection e103);replace p103:=eq_true p103;replace q103:=eq_true q103));go_roundg k1
      case measure=>have:=HK1.out;omega
      case rel=>exact ⟨(wrap64 (A2 + ((rd_T66 l0 A1).f2))),(wrap64 (A1 + 1)),(by first|rfl|(simp;done)|(simp [*];done)),(by first|rfl|(simp;done)|(simp [*];done)),H',⟨by have:=HK1.out;omega⟩,by repeat (first|exact Drawn0.refl _|apply Drawn0.step)⟩
     ·replace c5:=Bool.eq_false_iff.mpr c5;subst c5
      have H1:(some 13)=some r:=by rw [if_neg (show ¬ (false=true) by decide)] at H;exact H
      clear H;have H:=H1;clear H1;obtain rfl:=os H;have p101:0≤(A1:Int):=od;have q101:A1 < (l0.length:Int):=od;obtain ⟨ad101,e101,hx101_0,hx101_1,hx101_2⟩:=at_T66 HR0.out A1 p101 q101;cases e101;replace p101:=eq_true p101;replace q101:=eq_true q101;go_wp2_with (first|((with_reducible refine gate_callee (f:=69) rfl ?_);refine goesL_ (some 16) rfl rfl Try.func69 (by kernel_rfl) rfl #[.int .i64 ((rd_T66 l0 A1).f2),.int .i64 1,.int .i64 8] rfl ml ?_;(with_reducible refine (spec_l01In.calls ((rd_T66 l0 A1).f2) 1 8 false _ A4.out).mono ?_);rintro e w' ⟨rfl,⟨nd,rfl⟩⟩;refine ⟨_,rfl,?_⟩));go_ret;exact ⟨e1,dn⟩
    ·rw [if_neg c3] at H;exact absurd H (by simp)
   ·rw [if_neg c2] at H;have c2b0:decide (A1 < (l0.length:Int))=false:=decide_eq_false c2;clear c2;obtain rfl:=os H;go_wp2;go_ret;exact ⟨e1,dn⟩
def spec_l01Two.f (k:Nat) (a0:Int) (a1:Int) (a2:Int):Option (Bool):=(spec_WordOk.f k a0 a1).bind fun A1=>(if A1=true then ((spec_WordOk.f k a0 a2).bind fun A0=>(some A0)) else (some false))
set_option maxHeartbeats 8000000 in
set_option maxRecDepth 100000 in
theorem spec_l01Two.calls (k:Nat) (a0:Int) (a1:Int) (a2:Int) (r:Bool) (w:World) (h:spec_l01Two.f k a0 a1 a2=some r) :
  Calls Try.prog 177 #[.int .i64 a0,.int .i64 a1,.int .i64 a2] w fun e w'=>e = .returned (.bool r)∧Drawn0 w w':=by
 have H:((spec_WordOk.f k a0 a1).bind fun A1=>(if A1=true then ((spec_WordOk.f k a0 a2).bind fun A0=>(some A0)) else (some false)))=some r:=h;clear h;replace H:=ob H;obtain ⟨A1,A40,H⟩:=H;replace H:(if A1=true then ((spec_WordOk.f k a0 a2).bind fun A0=>(some A0)) else (some false))=some r:=H;have A4:=Aside0.mk A40;clear A40
 by_cases c5:A1=true
 ·subst c5
  have H1:((spec_WordOk.f k a0 a2).bind fun A0=>(some A0))=some r:=by rw [if_pos rfl] at H;exact H
  clear H;have H:=H1;clear H1;replace H:=ob H;obtain ⟨A0,A60,H⟩:=H;replace H:(some A0)=some r:=H;have A6:=Aside0.mk A60;clear A60;obtain rfl:=os H
  go_enter Try.func177,Try.ntmps177
  go_wp2_with (first|((with_reducible refine gate_callee (f:=131) rfl ?_);refine goesL_ (some 9) rfl rfl Try.func131 (by kernel_rfl) rfl #[.int .i64 a0,.int .i64 a1] rfl ml ?_;(with_reducible refine (spec_WordOk.calls k a0 a1 true _ A4.out).mono ?_);rintro e w' ⟨rfl,⟨nd,rfl⟩⟩;refine ⟨_,rfl,?_⟩)|(go_at_call 131;(try simp only [i64_w,i32_w]);(with_reducible refine (spec_WordOk.calls k a0 a2 A0 _ A6.out).mono ?_);rintro e w' ⟨rfl,⟨nd,rfl⟩⟩));go_ret;exact ⟨e1,dn⟩
 ·replace c5:=Bool.eq_false_iff.mpr c5;subst c5
  have H1:(some false)=some r:=by rw [if_neg (show ¬ (false=true) by decide)] at H;exact H
  clear H;have H:=H1;clear H1;obtain rfl:=os H
  go_enter Try.func177,Try.ntmps177
  go_wp2_with (first|((with_reducible refine gate_callee (f:=131) rfl ?_);refine goesL_ (some 9) rfl rfl Try.func131 (by kernel_rfl) rfl #[.int .i64 a0,.int .i64 a1] rfl ml ?_;(with_reducible refine (spec_WordOk.calls k a0 a1 false _ A4.out).mono ?_);rintro e w' ⟨rfl,⟨nd,rfl⟩⟩;refine ⟨_,rfl,?_⟩));go_ret;exact ⟨e1,dn⟩
def spec_Add.f (k:Nat) (a0:Int) (a1:Int) (a2:Int):Option (Int):=(spec_l01Two.f k a0 a1 a2).bind fun A1=>(if A1=true then ((spec_l01Pow2.f k a0).bind fun A0=>(if A0=0 then (none) else (some (Int.tmod (wrap64 (a1 + a2)) A0)))) else (some 0))
set_option maxHeartbeats 8000000 in
set_option maxRecDepth 100000 in
theorem spec_Add.calls (k:Nat) (a0:Int) (a1:Int) (a2:Int) (r:Int) (w:World) (h:spec_Add.f k a0 a1 a2=some r) :
  Calls Try.prog 153 #[.int .i64 a0,.int .i64 a1,.int .i64 a2] w fun e w'=>e = .returned (.int .i64 r)∧Drawn0 w w':=by
 have H:((spec_l01Two.f k a0 a1 a2).bind fun A1=>(if A1=true then ((spec_l01Pow2.f k a0).bind fun A0=>(if A0=0 then (none) else (some (Int.tmod (wrap64 (a1 + a2)) A0)))) else (some 0)))=some r:=h;clear h;replace H:=ob H;obtain ⟨A1,A40,H⟩:=H;replace H:(if A1=true then ((spec_l01Pow2.f k a0).bind fun A0=>(if A0=0 then (none) else (some (Int.tmod (wrap64 (a1 + a2)) A0)))) else (some 0))=some r:=H;have A4:=Aside0.mk A40;clear A40
 by_cases c5:A1=true
 ·subst c5
  have H1:((spec_l01Pow2.f k a0).bind fun A0=>(if A0=0 then (none) else (some (Int.tmod (wrap64 (a1 + a2)) A0))))=some r:=by rw [if_pos rfl] at H;exact H
  clear H;have H:=H1;clear H1;replace H:=ob H;obtain ⟨A0,A60,H⟩:=H;replace H:(if A0=0 then (none) else (some (Int.tmod (wrap64 (a1 + a2)) A0)))=some r:=H;have A6:=Aside0.mk A60;clear A60
  by_cases c7:A0=0
  ·rw [if_pos c7] at H;exact absurd H (by simp)
  ·rw [if_neg c7] at H;have c7b0:(A0 == 0)=false:=beq_eq_false_iff_ne.mpr c7;have c7b1:(A0 != 0)=true:=bne_iff_ne.mpr c7;obtain rfl:=os H
   go_enter Try.func153,Try.ntmps153
   go_wp2_with (first|((with_reducible refine gate_callee (f:=177) rfl ?_);refine goesL_ (some 10) rfl rfl Try.func177 (by kernel_rfl) rfl #[.int .i64 a0,.int .i64 a1,.int .i64 a2] rfl ml ?_;(with_reducible refine (spec_l01Two.calls k a0 a1 a2 true _ A4.out).mono ?_);rintro e w' ⟨rfl,⟨nd,rfl⟩⟩;refine ⟨_,rfl,?_⟩)|((with_reducible refine gate_callee (f:=70) rfl ?_);refine goesL_ (some 16) rfl rfl Try.func70 (by kernel_rfl) rfl #[.int .i64 a0] rfl ml ?_;(with_reducible refine (spec_l01Pow2.calls k a0 A0 _ A6.out).mono ?_);rintro e w' ⟨rfl,⟨nd,rfl⟩⟩;refine ⟨_,rfl,?_⟩));go_ret;exact ⟨e1,dn⟩
 ·replace c5:=Bool.eq_false_iff.mpr c5;subst c5
  have H1:(some 0)=some r:=by rw [if_neg (show ¬ (false=true) by decide)] at H;exact H
  clear H;have H:=H1;clear H1;obtain rfl:=os H
  go_enter Try.func153,Try.ntmps153
  go_wp2_with (first|((with_reducible refine gate_callee (f:=177) rfl ?_);refine goesL_ (some 10) rfl rfl Try.func177 (by kernel_rfl) rfl #[.int .i64 a0,.int .i64 a1,.int .i64 a2] rfl ml ?_;(with_reducible refine (spec_l01Two.calls k a0 a1 a2 false _ A4.out).mono ?_);rintro e w' ⟨rfl,⟨nd,rfl⟩⟩;refine ⟨_,rfl,?_⟩));go_ret;exact ⟨e1,dn⟩
def spec_Div.f (k:Nat) (a0:Int) (a1:Int) (a2:Int):Option (Int):=(spec_l01Two.f k a0 a1 a2).bind fun A1=>(if A1=true then (if a2=0 then ((spec_l01Pow2.f k a0).bind fun A0=>(some (wrap64 (A0 - 1)))) else (some (wrap64 (Int.tdiv a1 a2)))) else (some 0))
set_option maxHeartbeats 8000000 in
set_option maxRecDepth 100000 in
theorem spec_Div.calls (k:Nat) (a0:Int) (a1:Int) (a2:Int) (r:Int) (w:World) (h:spec_Div.f k a0 a1 a2=some r) :
  Calls Try.prog 156 #[.int .i64 a0,.int .i64 a1,.int .i64 a2] w fun e w'=>e = .returned (.int .i64 r)∧Drawn0 w w':=by
 have H:((spec_l01Two.f k a0 a1 a2).bind fun A1=>(if A1=true then (if a2=0 then ((spec_l01Pow2.f k a0).bind fun A0=>(some (wrap64 (A0 - 1)))) else (some (wrap64 (Int.tdiv a1 a2)))) else (some 0)))=some r:=h;clear h;replace H:=ob H;obtain ⟨A1,A40,H⟩:=H;replace H:(if A1=true then (if a2=0 then ((spec_l01Pow2.f k a0).bind fun A0=>(some (wrap64 (A0 - 1)))) else (some (wrap64 (Int.tdiv a1 a2)))) else (some 0))=some r:=H;have A4:=Aside0.mk A40;clear A40
 by_cases c5:A1=true
 ·subst c5
  have H1:(if a2=0 then ((spec_l01Pow2.f k a0).bind fun A0=>(some (wrap64 (A0 - 1)))) else (some (wrap64 (Int.tdiv a1 a2))))=some r:=by rw [if_pos rfl] at H;exact H
  clear H;have H:=H1;clear H1
  by_cases c6:a2=0
  ·rw [if_pos c6] at H;have c6b0:(a2 == 0)=true:=beq_iff_eq.mpr c6;have c6b1:(a2 != 0)=false:=bne_eq_false_iff_eq.mpr c6;clear c6;replace H:=ob H;obtain ⟨A0,A70,H⟩:=H;replace H:(some (wrap64 (A0 - 1)))=some r:=H;have A7:=Aside0.mk A70;clear A70;obtain rfl:=os H
   go_enter Try.func156,Try.ntmps156
   go_wp2_with (first|((with_reducible refine gate_callee (f:=177) rfl ?_);refine goesL_ (some 10) rfl rfl Try.func177 (by kernel_rfl) rfl #[.int .i64 a0,.int .i64 a1,.int .i64 a2] rfl ml ?_;(with_reducible refine (spec_l01Two.calls k a0 a1 a2 true _ A4.out).mono ?_);rintro e w' ⟨rfl,⟨nd,rfl⟩⟩;refine ⟨_,rfl,?_⟩)|((with_reducible refine gate_callee (f:=70) rfl ?_);refine goesL_ (some 15) rfl rfl Try.func70 (by kernel_rfl) rfl #[.int .i64 a0] rfl ml ?_;(with_reducible refine (spec_l01Pow2.calls k a0 A0 _ A7.out).mono ?_);rintro e w' ⟨rfl,⟨nd,rfl⟩⟩;refine ⟨_,rfl,?_⟩));go_ret;exact ⟨e1,dn⟩
  ·rw [if_neg c6] at H;have c6b0:(a2 == 0)=false:=beq_eq_false_iff_ne.mpr c6;have c6b1:(a2 != 0)=true:=bne_iff_ne.mpr c6;obtain rfl:=os H
   go_enter Try.func156,Try.ntmps156
   go_wp2_with (first|((with_reducible refine gate_callee (f:=177) rfl ?_);refine goesL_ (some 10) rfl rfl Try.func177 (by kernel_rfl) rfl #[.int .i64 a0,.int .i64 a1,.int .i64 a2] rfl ml ?_;(with_reducible refine (spec_l01Two.calls k a0 a1 a2 true _ A4.out).mono ?_);rintro e w' ⟨rfl,⟨nd,rfl⟩⟩;refine ⟨_,rfl,?_⟩));go_ret;exact ⟨e1,dn⟩
 ·replace c5:=Bool.eq_false_iff.mpr c5;subst c5
  have H1:(some 0)=some r:=by rw [if_neg (show ¬ (false=true) by decide)] at H;exact H
  clear H;have H:=H1;clear H1;obtain rfl:=os H
  go_enter Try.func156,Try.ntmps156
  go_wp2_with (first|((with_reducible refine gate_callee (f:=177) rfl ?_);refine goesL_ (some 10) rfl rfl Try.func177 (by kernel_rfl) rfl #[.int .i64 a0,.int .i64 a1,.int .i64 a2] rfl ml ?_;(with_reducible refine (spec_l01Two.calls k a0 a1 a2 false _ A4.out).mono ?_);rintro e w' ⟨rfl,⟨nd,rfl⟩⟩;refine ⟨_,rfl,?_⟩));go_ret;exact ⟨e1,dn⟩
def spec_Flip.f (k:Nat) (a0:Int) (a1:Int):Option (Int):=(spec_WordOk.f k a0 a1).bind fun A1=>(if A1=true then ((spec_l01Pow2.f k a0).bind fun A0=>(some (wrap64 ((wrap64 (A0 - 1)) - a1)))) else (some 0))
set_option maxHeartbeats 8000000 in
set_option maxRecDepth 100000 in
theorem spec_Flip.calls (k:Nat) (a0:Int) (a1:Int) (r:Int) (w:World) (h:spec_Flip.f k a0 a1=some r) :
  Calls Try.prog 152 #[.int .i64 a0,.int .i64 a1] w fun e w'=>e = .returned (.int .i64 r)∧Drawn0 w w':=by
 have H:((spec_WordOk.f k a0 a1).bind fun A1=>(if A1=true then ((spec_l01Pow2.f k a0).bind fun A0=>(some (wrap64 ((wrap64 (A0 - 1)) - a1)))) else (some 0)))=some r:=h;clear h;replace H:=ob H;obtain ⟨A1,A30,H⟩:=H;replace H:(if A1=true then ((spec_l01Pow2.f k a0).bind fun A0=>(some (wrap64 ((wrap64 (A0 - 1)) - a1)))) else (some 0))=some r:=H;have A3:=Aside0.mk A30;clear A30
 by_cases c4:A1=true
 ·subst c4
  have H1:((spec_l01Pow2.f k a0).bind fun A0=>(some (wrap64 ((wrap64 (A0 - 1)) - a1))))=some r:=by rw [if_pos rfl] at H;exact H
  clear H;have H:=H1;clear H1;replace H:=ob H;obtain ⟨A0,A50,H⟩:=H;replace H:(some (wrap64 ((wrap64 (A0 - 1)) - a1)))=some r:=H;have A5:=Aside0.mk A50;clear A50;obtain rfl:=os H
  go_enter Try.func152,Try.ntmps152
  go_wp2_with (first|((with_reducible refine gate_callee (f:=131) rfl ?_);refine goesL_ (some 7) rfl rfl Try.func131 (by kernel_rfl) rfl #[.int .i64 a0,.int .i64 a1] rfl ml ?_;(with_reducible refine (spec_WordOk.calls k a0 a1 true _ A3.out).mono ?_);rintro e w' ⟨rfl,⟨nd,rfl⟩⟩;refine ⟨_,rfl,?_⟩)|((with_reducible refine gate_callee (f:=70) rfl ?_);refine goesL_ (some 10) rfl rfl Try.func70 (by kernel_rfl) rfl #[.int .i64 a0] rfl ml ?_;(with_reducible refine (spec_l01Pow2.calls k a0 A0 _ A5.out).mono ?_);rintro e w' ⟨rfl,⟨nd,rfl⟩⟩;refine ⟨_,rfl,?_⟩));go_ret;exact ⟨e1,dn⟩
 ·replace c4:=Bool.eq_false_iff.mpr c4;subst c4
  have H1:(some 0)=some r:=by rw [if_neg (show ¬ (false=true) by decide)] at H;exact H
  clear H;have H:=H1;clear H1;obtain rfl:=os H
  go_enter Try.func152,Try.ntmps152
  go_wp2_with (first|((with_reducible refine gate_callee (f:=131) rfl ?_);refine goesL_ (some 7) rfl rfl Try.func131 (by kernel_rfl) rfl #[.int .i64 a0,.int .i64 a1] rfl ml ?_;(with_reducible refine (spec_WordOk.calls k a0 a1 false _ A3.out).mono ?_);rintro e w' ⟨rfl,⟨nd,rfl⟩⟩;refine ⟨_,rfl,?_⟩));go_ret;exact ⟨e1,dn⟩
def spec_l01Bool.f (a0:Bool):Option (Int):=if a0=true then (some 1) else (some 0)
set_option maxHeartbeats 8000000 in
set_option maxRecDepth 100000 in
theorem spec_l01Bool.calls (a0:Bool) (r:Int) (w:World) (h:spec_l01Bool.f a0=some r) :
  Calls Try.prog 160 #[.bool a0] w fun e w'=>e = .returned (.int .i64 r)∧Drawn0 w w':=by
 have H:(if a0=true then (some 1) else (some 0))=some r:=h;clear h
 by_cases c2:a0=true
 ·subst c2
  have H1:(some 1)=some r:=by rw [if_pos rfl] at H;exact H
  clear H;have H:=H1;clear H1;obtain rfl:=os H
  go_enter Try.func160,Try.ntmps160
  go_wp2;go_ret;exact ⟨e1,dn⟩
 ·replace c2:=Bool.eq_false_iff.mpr c2;subst c2
  have H1:(some 0)=some r:=by rw [if_neg (show ¬ (false=true) by decide)] at H;exact H
  clear H;have H:=H1;clear H1;obtain rfl:=os H
  go_enter Try.func160,Try.ntmps160
  go_wp2;go_ret;exact ⟨e1,dn⟩
def spec_Less.f (k:Nat) (a0:Int) (a1:Int) (a2:Int):Option (Int):=(spec_l01Two.f k a0 a1 a2).bind fun A2=>(if A2=true then ((spec_l01Bool.f (decide (a1 < a2))).bind fun A0=>(some A0)) else ((spec_l01Bool.f false).bind fun A1=>(some A1)))
set_option maxHeartbeats 8000000 in
set_option maxRecDepth 100000 in
theorem spec_Less.calls (k:Nat) (a0:Int) (a1:Int) (a2:Int) (r:Int) (w:World) (h:spec_Less.f k a0 a1 a2=some r) :
  Calls Try.prog 161 #[.int .i64 a0,.int .i64 a1,.int .i64 a2] w fun e w'=>e = .returned (.int .i64 r)∧Drawn0 w w':=by
 have H:((spec_l01Two.f k a0 a1 a2).bind fun A2=>(if A2=true then ((spec_l01Bool.f (decide (a1 < a2))).bind fun A0=>(some A0)) else ((spec_l01Bool.f false).bind fun A1=>(some A1))))=some r:=h;clear h;replace H:=ob H;obtain ⟨A2,A40,H⟩:=H;replace H:(if A2=true then ((spec_l01Bool.f (decide (a1 < a2))).bind fun A0=>(some A0)) else ((spec_l01Bool.f false).bind fun A1=>(some A1)))=some r:=H;have A4:=Aside0.mk A40;clear A40
 by_cases c5:A2=true
 ·subst c5
  have H1:((spec_l01Bool.f (decide (a1 < a2))).bind fun A0=>(some A0))=some r:=by rw [if_pos rfl] at H;exact H
  clear H;have H:=H1;clear H1;replace H:=ob H;obtain ⟨A0,A60,H⟩:=H;replace H:(some A0)=some r:=H;have A6:=Aside0.mk A60;clear A60;obtain rfl:=os H
  go_enter Try.func161,Try.ntmps161
  go_wp2_with (first|((with_reducible refine gate_callee (f:=177) rfl ?_);refine goesL_ (some 10) rfl rfl Try.func177 (by kernel_rfl) rfl #[.int .i64 a0,.int .i64 a1,.int .i64 a2] rfl ml ?_;(with_reducible refine (spec_l01Two.calls k a0 a1 a2 true _ A4.out).mono ?_);rintro e w' ⟨rfl,⟨nd,rfl⟩⟩;refine ⟨_,rfl,?_⟩)|((with_reducible refine gate_callee (f:=160) rfl ?_);refine goesL_ (some 16) rfl rfl Try.func160 (by kernel_rfl) rfl #[.bool (decide (a1 < a2))] rfl ml ?_;(with_reducible refine (spec_l01Bool.calls (decide (a1 < a2)) A0 _ A6.out).mono ?_);rintro e w' ⟨rfl,⟨nd,rfl⟩⟩;refine ⟨_,rfl,?_⟩));go_ret;exact ⟨e1,dn⟩
 ·replace c5:=Bool.eq_false_iff.mpr c5;subst c5
  have H1:((spec_l01Bool.f false).bind fun A1=>(some A1))=some r:=by rw [if_neg (show ¬ (false=true) by decide)] at H;exact H
  clear H;have H:=H1;clear H1;replace H:=ob H;obtain ⟨A1,A70,H⟩:=H;replace H:(some A1)=some r:=H;have A7:=Aside0.mk A70;clear A70;obtain rfl:=os H
  go_enter Try.func161,Try.ntmps161
  go_wp2_with (first|((with_reducible refine gate_callee (f:=177) rfl ?_);refine goesL_ (some 10) rfl rfl Try.func177 (by kernel_rfl) rfl #[.int .i64 a0,.int .i64 a1,.int .i64 a2] rfl ml ?_;(with_reducible refine (spec_l01Two.calls k a0 a1 a2 false _ A4.out).mono ?_);rintro e w' ⟨rfl,⟨nd,rfl⟩⟩;refine ⟨_,rfl,?_⟩)|((with_reducible refine gate_callee (f:=160) rfl ?_);refine goesL_ (some 16) rfl rfl Try.func160 (by kernel_rfl) rfl #[.bool false] rfl ml ?_;(with_reducible refine (spec_l01Bool.calls false A1 _ A7.out).mono ?_);rintro e w' ⟨rfl,⟨nd,rfl⟩⟩;refine ⟨_,rfl,?_⟩));go_ret;exact ⟨e1,dn⟩
def spec_Signed.f (k:Nat) (a0:Int) (a1:Int):Option (Int):=(spec_WordOk.f k a0 a1).bind fun A2=>(if A2=true then ((spec_l01Pow2.f k (wrap64 (a0 - 1))).bind fun A0=>(if a1 ≥ A0 then ((spec_l01Pow2.f k a0).bind fun A1=>(some (wrap64 (a1 - A1)))) else (some a1))) else (some 0))
set_option maxHeartbeats 8000000 in
set_option maxRecDepth 100000 in
theorem spec_Signed.calls (k:Nat) (a0:Int) (a1:Int) (r:Int) (w:World) (h:spec_Signed.f k a0 a1=some r) :
  Calls Try.prog 178 #[.int .i64 a0,.int .i64 a1] w fun e w'=>e = .returned (.int .i64 r)∧Drawn0 w w':=by
 have H:((spec_WordOk.f k a0 a1).bind fun A2=>(if A2=true then ((spec_l01Pow2.f k (wrap64 (a0 - 1))).bind fun A0=>(if a1 ≥ A0 then ((spec_l01Pow2.f k a0).bind fun A1=>(some (wrap64 (a1 - A1)))) else (some a1))) else (some 0)))=some r:=h;clear h;replace H:=ob H;obtain ⟨A2,A30,H⟩:=H;replace H:(if A2=true then ((spec_l01Pow2.f k (wrap64 (a0 - 1))).bind fun A0=>(if a1 ≥ A0 then ((spec_l01Pow2.f k a0).bind fun A1=>(some (wrap64 (a1 - A1)))) else (some a1))) else (some 0))=some r:=H;have A3:=Aside0.mk A30;clear A30
 by_cases c4:A2=true
 ·subst c4
  have H1:((spec_l01Pow2.f k (wrap64 (a0 - 1))).bind fun A0=>(if a1 ≥ A0 then ((spec_l01Pow2.f k a0).bind fun A1=>(some (wrap64 (a1 - A1)))) else (some a1)))=some r:=by rw [if_pos rfl] at H;exact H
  clear H;have H:=H1;clear H1;replace H:=ob H;obtain ⟨A0,A50,H⟩:=H;replace H:(if a1 ≥ A0 then ((spec_l01Pow2.f k a0).bind fun A1=>(some (wrap64 (a1 - A1)))) else (some a1))=some r:=H;have A5:=Aside0.mk A50;clear A50
  by_cases c6:a1 ≥ A0
  ·rw [if_pos c6] at H;have c6b0:decide (A0≤a1)=true:=decide_eq_true c6;clear c6;replace H:=ob H;obtain ⟨A1,A70,H⟩:=H;replace H:(some (wrap64 (a1 - A1)))=some r:=H;have A7:=Aside0.mk A70;clear A70;obtain rfl:=os H
   go_enter Try.func178,Try.ntmps178
   go_wp2_with (first|((with_reducible refine gate_callee (f:=131) rfl ?_);refine goesL_ (some 7) rfl rfl Try.func131 (by kernel_rfl) rfl #[.int .i64 a0,.int .i64 a1] rfl ml ?_;(with_reducible refine (spec_WordOk.calls k a0 a1 true _ A3.out).mono ?_);rintro e w' ⟨rfl,⟨nd,rfl⟩⟩;refine ⟨_,rfl,?_⟩)|((with_reducible refine gate_callee (f:=70) rfl ?_);refine goesL_ (some 12) rfl rfl Try.func70 (by kernel_rfl) rfl #[.int .i64 (wrap64 (a0 - 1))] rfl ml ?_;(with_reducible refine (spec_l01Pow2.calls k (wrap64 (a0 - 1)) A0 _ A5.out).mono ?_);rintro e w' ⟨rfl,⟨nd,rfl⟩⟩;refine ⟨_,rfl,?_⟩)|((with_reducible refine gate_callee (f:=70) rfl ?_);refine goesL_ (some 16) rfl rfl Try.func70 (by kernel_rfl) rfl #[.int .i64 a0] rfl ml ?_;(with_reducible refine (spec_l01Pow2.calls k a0 A1 _ A7.out).mono ?_);rintro e w' ⟨rfl,⟨nd,rfl⟩⟩;refine ⟨_,rfl,?_⟩));go_ret;exact ⟨e1,dn⟩
  ·rw [if_neg c6] at H;have c6b0:decide (A0≤a1)=false:=decide_eq_false c6;clear c6;obtain rfl:=os H
   go_enter Try.func178,Try.ntmps178
   go_wp2_with (first|((with_reducible refine gate_callee (f:=131) rfl ?_);refine goesL_ (some 7) rfl rfl Try.func131 (by kernel_rfl) rfl #[.int .i64 a0,.int .i64 a1] rfl ml ?_;(with_reducible refine (spec_WordOk.calls k a0 a1 true _ A3.out).mono ?_);rintro e w' ⟨rfl,⟨nd,rfl⟩⟩;refine ⟨_,rfl,?_⟩)|((with_reducible refine gate_callee (f:=70) rfl ?_);refine goesL_ (some 12) rfl rfl Try.func70 (by kernel_rfl) rfl #[.int .i64 (wrap64 (a0 - 1))] rfl ml ?_;(with_reducible refine (spec_l01Pow2.calls k (wrap64 (a0 - 1)) A0 _ A5.out).mono ?_);rintro e w' ⟨rfl,⟨nd,rfl⟩⟩;refine ⟨_,rfl,?_⟩));go_ret;exact ⟨e1,dn⟩
 ·replace c4:=Bool.eq_false_iff.mpr c4;subst c4
  have H1:(some 0)=some r:=by rw [if_neg (show ¬ (false=true) by decide)] at H;exact H
  clear H;have H:=H1;clear H1;obtain rfl:=os H
  go_enter Try.func178,Try.ntmps178
  go_wp2_with (first|((with_reducible refine gate_callee (f:=131) rfl ?_);refine goesL_ (some 7) rfl rfl Try.func131 (by kernel_rfl) rfl #[.int .i64 a0,.int .i64 a1] rfl ml ?_;(with_reducible refine (spec_WordOk.calls k a0 a1 false _ A3.out).mono ?_);rintro e w' ⟨rfl,⟨nd,rfl⟩⟩;refine ⟨_,rfl,?_⟩));go_ret;exact ⟨e1,dn⟩
def spec_LessSigned.f (k:Nat) (a0:Int) (a1:Int) (a2:Int):Option (Int):=(spec_l01Two.f k a0 a1 a2).bind fun A5=>(if A5=true then ((spec_Signed.f k a0 a1).bind fun A2=>((spec_Signed.f k a0 a2).bind fun A0=>((spec_l01Bool.f (decide (A2 < A0))).bind fun A1=>(some A1)))) else ((spec_l01Bool.f false).bind fun A3=>(some A3)))
set_option maxHeartbeats 8000000 in
set_option maxRecDepth 100000 in
theorem spec_LessSigned.calls (k:Nat) (a0:Int) (a1:Int) (a2:Int) (r:Int) (w:World) (h:spec_LessSigned.f k a0 a1 a2=some r) :
  Calls Try.prog 162 #[.int .i64 a0,.int .i64 a1,.int .i64 a2] w fun e w'=>e = .returned (.int .i64 r)∧Drawn0 w w':=by
 have H:((spec_l01Two.f k a0 a1 a2).bind fun A5=>(if A5=true then ((spec_Signed.f k a0 a1).bind fun A2=>((spec_Signed.f k a0 a2).bind fun A0=>((spec_l01Bool.f (decide (A2 < A0))).bind fun A1=>(some A1)))) else ((spec_l01Bool.f false).bind fun A3=>(some A3))))=some r:=h;clear h;replace H:=ob H;obtain ⟨A5,A40,H⟩:=H;replace H:(if A5=true then ((spec_Signed.f k a0 a1).bind fun A2=>((spec_Signed.f k a0 a2).bind fun A0=>((spec_l01Bool.f (decide (A2 < A0))).bind fun A1=>(some A1)))) else ((spec_l01Bool.f false).bind fun A3=>(some A3)))=some r:=H;have A4:=Aside0.mk A40;clear A40
 by_cases c5:A5=true
 ·subst c5
  have H1:((spec_Signed.f k a0 a1).bind fun A2=>((spec_Signed.f k a0 a2).bind fun A0=>((spec_l01Bool.f (decide (A2 < A0))).bind fun A1=>(some A1))))=some r:=by rw [if_pos rfl] at H;exact H
  clear H;have H:=H1;clear H1;replace H:=ob H;obtain ⟨A2,A60,H⟩:=H;replace H:((spec_Signed.f k a0 a2).bind fun A0=>((spec_l01Bool.f (decide (A2 < A0))).bind fun A1=>(some A1)))=some r:=H;have A6:=Aside0.mk A60;clear A60;replace H:=ob H;obtain ⟨A0,A70,H⟩:=H;replace H:((spec_l01Bool.f (decide (A2 < A0))).bind fun A1=>(some A1))=some r:=H;have A7:=Aside0.mk A70;clear A70;replace H:=ob H;obtain ⟨A1,A80,H⟩:=H;replace H:(some A1)=some r:=H;have A8:=Aside0.mk A80;clear A80;obtain rfl:=os H
  go_enter Try.func162,Try.ntmps162
  go_wp2_with (first|((with_reducible refine gate_callee (f:=177) rfl ?_);refine goesL_ (some 10) rfl rfl Try.func177 (by kernel_rfl) rfl #[.int .i64 a0,.int .i64 a1,.int .i64 a2] rfl ml ?_;(with_reducible refine (spec_l01Two.calls k a0 a1 a2 true _ A4.out).mono ?_);rintro e w' ⟨rfl,⟨nd,rfl⟩⟩;refine ⟨_,rfl,?_⟩)|(go_at_call 178;(try simp only [i64_w,i32_w]);(with_reducible refine (spec_Signed.calls k a0 a1 A2 _ A6.out).mono ?_);rintro e w' ⟨rfl,⟨nd,rfl⟩⟩)|(go_at_call 178;(try simp only [i64_w,i32_w]);(with_reducible refine (spec_Signed.calls k a0 a2 A0 _ A7.out).mono ?_);rintro e w' ⟨rfl,⟨nd,rfl⟩⟩)|((with_reducible refine gate_callee (f:=160) rfl ?_);refine goesL_ (some 20) rfl rfl Try.func160 (by kernel_rfl) rfl #[.bool (decide (A2 < A0))] rfl ml ?_;(with_reducible refine (spec_l01Bool.calls (decide (A2 < A0)) A1 _ A8.out).mono ?_);rintro e w' ⟨rfl,⟨nd,rfl⟩⟩;refine ⟨_,rfl,?_⟩));go_ret;exact ⟨e1,dn⟩
 ·replace c5:=Bool.eq_false_iff.mpr c5;subst c5
  have H1:((spec_l01Bool.f false).bind fun A3=>(some A3))=some r:=by rw [if_neg (show ¬ (false=true) by decide)] at H;exact H
  clear H;have H:=H1;clear H1;replace H:=ob H;obtain ⟨A3,A90,H⟩:=H;replace H:(some A3)=some r:=H;have A9:=Aside0.mk A90;clear A90;obtain rfl:=os H
  go_enter Try.func162,Try.ntmps162
  go_wp2_with (first|((with_reducible refine gate_callee (f:=177) rfl ?_);refine goesL_ (some 10) rfl rfl Try.func177 (by kernel_rfl) rfl #[.int .i64 a0,.int .i64 a1,.int .i64 a2] rfl ml ?_;(with_reducible refine (spec_l01Two.calls k a0 a1 a2 false _ A4.out).mono ?_);rintro e w' ⟨rfl,⟨nd,rfl⟩⟩;refine ⟨_,rfl,?_⟩)|((with_reducible refine gate_callee (f:=160) rfl ?_);refine goesL_ (some 20) rfl rfl Try.func160 (by kernel_rfl) rfl #[.bool false] rfl ml ?_;(with_reducible refine (spec_l01Bool.calls false A3 _ A9.out).mono ?_);rintro e w' ⟨rfl,⟨nd,rfl⟩⟩;refine ⟨_,rfl,?_⟩));go_ret;exact ⟨e1,dn⟩
def spec_Mul.f (k:Nat) (a0:Int) (a1:Int) (a2:Int):Option (Int):=(spec_l01Two.f k a0 a1 a2).bind fun A1=>(if A1=true then ((spec_l01Pow2.f k a0).bind fun A0=>(if A0=0 then (none) else (some (Int.tmod (wrap64 (a1 * a2)) A0)))) else (some 0))
set_option maxHeartbeats 8000000 in
set_option maxRecDepth 100000 in
theorem spec_Mul.calls (k:Nat) (a0:Int) (a1:Int) (a2:Int) (r:Int) (w:World) (h:spec_Mul.f k a0 a1 a2=some r) :
  Calls Try.prog 155 #[.int .i64 a0,.int .i64 a1,.int .i64 a2] w fun e w'=>e = .returned (.int .i64 r)∧Drawn0 w w':=by
 have H:((spec_l01Two.f k a0 a1 a2).bind fun A1=>(if A1=true then ((spec_l01Pow2.f k a0).bind fun A0=>(if A0=0 then (none) else (some (Int.tmod (wrap64 (a1 * a2)) A0)))) else (some 0)))=some r:=h;clear h;replace H:=ob H;obtain ⟨A1,A40,H⟩:=H;replace H:(if A1=true then ((spec_l01Pow2.f k a0).bind fun A0=>(if A0=0 then (none) else (some (Int.tmod (wrap64 (a1 * a2)) A0)))) else (some 0))=some r:=H;have A4:=Aside0.mk A40;clear A40
 by_cases c5:A1=true
 ·subst c5
  have H1:((spec_l01Pow2.f k a0).bind fun A0=>(if A0=0 then (none) else (some (Int.tmod (wrap64 (a1 * a2)) A0))))=some r:=by rw [if_pos rfl] at H;exact H
  clear H;have H:=H1;clear H1;replace H:=ob H;obtain ⟨A0,A60,H⟩:=H;replace H:(if A0=0 then (none) else (some (Int.tmod (wrap64 (a1 * a2)) A0)))=some r:=H;have A6:=Aside0.mk A60;clear A60
  by_cases c7:A0=0
  ·rw [if_pos c7] at H;exact absurd H (by simp)
  ·rw [if_neg c7] at H;have c7b0:(A0 == 0)=false:=beq_eq_false_iff_ne.mpr c7;have c7b1:(A0 != 0)=true:=bne_iff_ne.mpr c7;obtain rfl:=os H
   go_enter Try.func155,Try.ntmps155
   go_wp2_with (first|((with_reducible refine gate_callee (f:=177) rfl ?_);refine goesL_ (some 10) rfl rfl Try.func177 (by kernel_rfl) rfl #[.int .i64 a0,.int .i64 a1,.int .i64 a2] rfl ml ?_;(with_reducible refine (spec_l01Two.calls k a0 a1 a2 true _ A4.out).mono ?_);rintro e w' ⟨rfl,⟨nd,rfl⟩⟩;refine ⟨_,rfl,?_⟩)|((with_reducible refine gate_callee (f:=70) rfl ?_);refine goesL_ (some 16) rfl rfl Try.func70 (by kernel_rfl) rfl #[.int .i64 a0] rfl ml ?_;(with_reducible refine (spec_l01Pow2.calls k a0 A0 _ A6.out).mono ?_);rintro e w' ⟨rfl,⟨nd,rfl⟩⟩;refine ⟨_,rfl,?_⟩));go_ret;exact ⟨e1,dn⟩
 ·replace c5:=Bool.eq_false_iff.mpr c5;subst c5
  have H1:(some 0)=some r:=by rw [if_neg (show ¬ (false=true) by decide)] at H;exact H
  clear H;have H:=H1;clear H1;obtain rfl:=os H
  go_enter Try.func155,Try.ntmps155
  go_wp2_with (first|((with_reducible refine gate_callee (f:=177) rfl ?_);refine goesL_ (some 10) rfl rfl Try.func177 (by kernel_rfl) rfl #[.int .i64 a0,.int .i64 a1,.int .i64 a2] rfl ml ?_;(with_reducible refine (spec_l01Two.calls k a0 a1 a2 false _ A4.out).mono ?_);rintro e w' ⟨rfl,⟨nd,rfl⟩⟩;refine ⟨_,rfl,?_⟩));go_ret;exact ⟨e1,dn⟩
def spec_Rem.f (k:Nat) (a0:Int) (a1:Int) (a2:Int):Option (Int):=(spec_l01Two.f k a0 a1 a2).bind fun A0=>(if A0=true then (if a2=0 then (some a1) else (some (Int.tmod a1 a2))) else (some 0))
set_option maxHeartbeats 8000000 in
set_option maxRecDepth 100000 in
theorem spec_Rem.calls (k:Nat) (a0:Int) (a1:Int) (a2:Int) (r:Int) (w:World) (h:spec_Rem.f k a0 a1 a2=some r) :
  Calls Try.prog 157 #[.int .i64 a0,.int .i64 a1,.int .i64 a2] w fun e w'=>e = .returned (.int .i64 r)∧Drawn0 w w':=by
 have H:((spec_l01Two.f k a0 a1 a2).bind fun A0=>(if A0=true then (if a2=0 then (some a1) else (some (Int.tmod a1 a2))) else (some 0)))=some r:=h;clear h;replace H:=ob H;obtain ⟨A0,A40,H⟩:=H;replace H:(if A0=true then (if a2=0 then (some a1) else (some (Int.tmod a1 a2))) else (some 0))=some r:=H;have A4:=Aside0.mk A40;clear A40
 by_cases c5:A0=true
 ·subst c5
  have H1:(if a2=0 then (some a1) else (some (Int.tmod a1 a2)))=some r:=by rw [if_pos rfl] at H;exact H
  clear H;have H:=H1;clear H1
  by_cases c6:a2=0
  ·rw [if_pos c6] at H;have c6b0:(a2 == 0)=true:=beq_iff_eq.mpr c6;have c6b1:(a2 != 0)=false:=bne_eq_false_iff_eq.mpr c6;clear c6;obtain rfl:=os H
   go_enter Try.func157,Try.ntmps157
   go_wp2_with (first|((with_reducible refine gate_callee (f:=177) rfl ?_);refine goesL_ (some 10) rfl rfl Try.func177 (by kernel_rfl) rfl #[.int .i64 a0,.int .i64 a1,.int .i64 a2] rfl ml ?_;(with_reducible refine (spec_l01Two.calls k a0 a1 a2 true _ A4.out).mono ?_);rintro e w' ⟨rfl,⟨nd,rfl⟩⟩;refine ⟨_,rfl,?_⟩));go_ret;exact ⟨e1,dn⟩
  ·rw [if_neg c6] at H;have c6b0:(a2 == 0)=false:=beq_eq_false_iff_ne.mpr c6;have c6b1:(a2 != 0)=true:=bne_iff_ne.mpr c6;obtain rfl:=os H
   go_enter Try.func157,Try.ntmps157
   go_wp2_with (first|((with_reducible refine gate_callee (f:=177) rfl ?_);refine goesL_ (some 10) rfl rfl Try.func177 (by kernel_rfl) rfl #[.int .i64 a0,.int .i64 a1,.int .i64 a2] rfl ml ?_;(with_reducible refine (spec_l01Two.calls k a0 a1 a2 true _ A4.out).mono ?_);rintro e w' ⟨rfl,⟨nd,rfl⟩⟩;refine ⟨_,rfl,?_⟩));go_ret;exact ⟨e1,dn⟩
 ·replace c5:=Bool.eq_false_iff.mpr c5;subst c5
  have H1:(some 0)=some r:=by rw [if_neg (show ¬ (false=true) by decide)] at H;exact H
  clear H;have H:=H1;clear H1;obtain rfl:=os H
  go_enter Try.func157,Try.ntmps157
  go_wp2_with (first|((with_reducible refine gate_callee (f:=177) rfl ?_);refine goesL_ (some 10) rfl rfl Try.func177 (by kernel_rfl) rfl #[.int .i64 a0,.int .i64 a1,.int .i64 a2] rfl ml ?_;(with_reducible refine (spec_l01Two.calls k a0 a1 a2 false _ A4.out).mono ?_);rintro e w' ⟨rfl,⟨nd,rfl⟩⟩;refine ⟨_,rfl,?_⟩));go_ret;exact ⟨e1,dn⟩
def spec_Shl.j0:Nat→Int→Int→Int→Bool→Option (Int)
 | 0,_,_,_,_=>none
 | k + 1,x0,x1,x2,x16=>if x16=true then (some 0) else ((spec_l01Pow2.f k x2).bind fun A1=>((spec_l01Pow2.f k x0).bind fun A0=>(if A0=0 then (none) else (some (Int.tmod (wrap64 (x1 * A1)) A0)))))
def spec_Shl.f (k:Nat) (a0:Int) (a1:Int) (a2:Int):Option (Int):=(spec_l01Two.f k a0 a1 a2).bind fun A3=>(if A3=true then (spec_Shl.j0 k a0 a1 a2 (decide (a2 ≥ a0))) else (spec_Shl.j0 k a0 a1 a2 true))
set_option maxHeartbeats 8000000 in
set_option maxRecDepth 100000 in
theorem spec_Shl.calls (k:Nat) (a0:Int) (a1:Int) (a2:Int) (r:Int) (w:World) (h:spec_Shl.f k a0 a1 a2=some r) :
  Calls Try.prog 158 #[.int .i64 a0,.int .i64 a1,.int .i64 a2] w fun e w'=>e = .returned (.int .i64 r)∧Drawn0 w w':=by
 have H:((spec_l01Two.f k a0 a1 a2).bind fun A3=>(if A3=true then (spec_Shl.j0 k a0 a1 a2 (decide (a2 ≥ a0))) else (spec_Shl.j0 k a0 a1 a2 true)))=some r:=h;clear h;have HC4:=Aside0.mk H;clear H
 go_enter Try.func158,Try.ntmps158
 go_upto_region 1 with (fail)
 go_cut [16] (fun v16 wc=>∃ (kq:Nat) (A2:Bool),v16 = .bool A2∧Aside0 (spec_Shl.j0 kq a0 a1 a2 A2=some r)∧Aside0 (kq≤k)∧Drawn0 w wc)
 case first =>
  have H:=HC4.out;clear HC4;replace H:=ob H;obtain ⟨A3,A50,H⟩:=H;replace H:(if A3=true then (spec_Shl.j0 k a0 a1 a2 (decide (a2 ≥ a0))) else (spec_Shl.j0 k a0 a1 a2 true))=some r:=H;have A5:=Aside0.mk A50;clear A50
  by_cases c6:A3=true
  ·subst c6
   have H1:(spec_Shl.j0 k a0 a1 a2 (decide (a2 ≥ a0)))=some r:=by rw [if_pos rfl] at H;exact H
   clear H;have H:=H1;clear H1;have H':=Aside0.mk H;clear H;go_wp2_with (first|((with_reducible refine gate_callee (f:=177) rfl ?_);refine goesL_ (some 10) rfl rfl Try.func177 (by kernel_rfl) rfl #[.int .i64 a0,.int .i64 a1,.int .i64 a2] rfl ml ?_;(with_reducible refine (spec_l01Two.calls k a0 a1 a2 true _ A5.out).mono ?_);rintro e w' ⟨rfl,⟨nd,rfl⟩⟩;refine ⟨_,rfl,?_⟩));go_meet
   case rel=>exact ⟨_,(decide (a2 ≥ a0)),(by first|rfl|(simp;done)|(simp [*];done)),H',⟨by first|omega|exact Nat.le_refl _⟩,by repeat (first|exact Drawn0.refl _|apply Drawn0.step)⟩
  ·replace c6:=Bool.eq_false_iff.mpr c6;subst c6
   have H1:(spec_Shl.j0 k a0 a1 a2 true)=some r:=by rw [if_neg (show ¬ (false=true) by decide)] at H;exact H
   clear H;have H:=H1;clear H1;have H':=Aside0.mk H;clear H;go_wp2_with (first|((with_reducible refine gate_callee (f:=177) rfl ?_);refine goesL_ (some 10) rfl rfl Try.func177 (by kernel_rfl) rfl #[.int .i64 a0,.int .i64 a1,.int .i64 a2] rfl ml ?_;(with_reducible refine (spec_l01Two.calls k a0 a1 a2 false _ A5.out).mono ?_);rintro e w' ⟨rfl,⟨nd,rfl⟩⟩;refine ⟨_,rfl,?_⟩));go_meet
   case rel=>exact ⟨_,(true),(by first|rfl|(simp;done)|(simp [*];done)),H',⟨by first|omega|exact Nat.le_refl _⟩,by repeat (first|exact Drawn0.refl _|apply Drawn0.step)⟩
 case rest =>
  clear HC4;(try clear c1);(try clear p2);(try clear c6);obtain ⟨kq,A2,rfl,HA,HJ3,⟨mc3,rfl⟩⟩:=hcut
  cases kq with
  | zero=>exact absurd HA.out (by simp [spec_Shl.j0])
  | succ kj3 =>
   have H:=HA.out;clear HA;simp only [spec_Shl.j0] at H
   by_cases c7:A2=true
   ·subst c7
    have H1:(some 0)=some r:=by rw [if_pos rfl] at H;exact H
    clear H;have H:=H1;clear H1;obtain rfl:=os H;go_wp2;go_ret;exact ⟨e1,dn⟩
   ·replace c7:=Bool.eq_false_iff.mpr c7;subst c7
    have H1:((spec_l01Pow2.f kj3 a2).bind fun A1=>((spec_l01Pow2.f kj3 a0).bind fun A0=>(if A0=0 then (none) else (some (Int.tmod (wrap64 (a1 * A1)) A0)))))=some r:=by rw [if_neg (show ¬ (false=true) by decide)] at H;exact H
    clear H;have H:=H1;clear H1;replace H:=ob H;obtain ⟨A1,A80,H⟩:=H;replace H:((spec_l01Pow2.f kj3 a0).bind fun A0=>(if A0=0 then (none) else (some (Int.tmod (wrap64 (a1 * A1)) A0))))=some r:=H;have A8:=Aside0.mk A80;clear A80;replace H:=ob H;obtain ⟨A0,A90,H⟩:=H;replace H:(if A0=0 then (none) else (some (Int.tmod (wrap64 (a1 * A1)) A0)))=some r:=H;have A9:=Aside0.mk A90;clear A90
    by_cases c10:A0=0
    ·rw [if_pos c10] at H;exact absurd H (by simp)
    ·rw [if_neg c10] at H;have c10b0:(A0 == 0)=false:=beq_eq_false_iff_ne.mpr c10;have c10b1:(A0 != 0)=true:=bne_iff_ne.mpr c10;obtain rfl:=os H;go_wp2_with (first|((with_reducible refine gate_callee (f:=70) rfl ?_);refine goesL_ (some 19) rfl rfl Try.func70 (by kernel_rfl) rfl #[.int .i64 a2] rfl ml ?_;(with_reducible refine (spec_l01Pow2.calls kj3 a2 A1 _ A8.out).mono ?_);rintro e w' ⟨rfl,⟨nd,rfl⟩⟩;refine ⟨_,rfl,?_⟩)|((with_reducible refine gate_callee (f:=70) rfl ?_);refine goesL_ (some 22) rfl rfl Try.func70 (by kernel_rfl) rfl #[.int .i64 a0] rfl ml ?_;(with_reducible refine (spec_l01Pow2.calls kj3 a0 A0 _ A9.out).mono ?_);rintro e w' ⟨rfl,⟨nd,rfl⟩⟩;refine ⟨_,rfl,?_⟩));go_ret;exact ⟨e1,dn⟩
def spec_Shr.f (k:Nat) (a0:Int) (a1:Int) (a2:Int):Option (Int):=(spec_l01Two.f k a0 a1 a2).bind fun A1=>(if A1=true then (if a2 ≥ a0 then (some 0) else ((spec_l01Pow2.f k a2).bind fun A0=>(if A0=0 then (none) else (some (wrap64 (Int.tdiv a1 A0)))))) else (some 0))
set_option maxHeartbeats 8000000 in
set_option maxRecDepth 100000 in
theorem spec_Shr.calls (k:Nat) (a0:Int) (a1:Int) (a2:Int) (r:Int) (w:World) (h:spec_Shr.f k a0 a1 a2=some r) :
  Calls Try.prog 159 #[.int .i64 a0,.int .i64 a1,.int .i64 a2] w fun e w'=>e = .returned (.int .i64 r)∧Drawn0 w w':=by
 have H:((spec_l01Two.f k a0 a1 a2).bind fun A1=>(if A1=true then (if a2 ≥ a0 then (some 0) else ((spec_l01Pow2.f k a2).bind fun A0=>(if A0=0 then (none) else (some (wrap64 (Int.tdiv a1 A0)))))) else (some 0)))=some r:=h;clear h;replace H:=ob H;obtain ⟨A1,A40,H⟩:=H;replace H:(if A1=true then (if a2 ≥ a0 then (some 0) else ((spec_l01Pow2.f k a2).bind fun A0=>(if A0=0 then (none) else (some (wrap64 (Int.tdiv a1 A0)))))) else (some 0))=some r:=H;have A4:=Aside0.mk A40;clear A40
 by_cases c5:A1=true
 ·subst c5
  have H1:(if a2 ≥ a0 then (some 0) else ((spec_l01Pow2.f k a2).bind fun A0=>(if A0=0 then (none) else (some (wrap64 (Int.tdiv a1 A0))))))=some r:=by rw [if_pos rfl] at H;exact H
  clear H;have H:=H1;clear H1
  by_cases c6:a2 ≥ a0
  ·rw [if_pos c6] at H;have c6b0:decide (a0≤a2)=true:=decide_eq_true c6;clear c6;obtain rfl:=os H
   go_enter Try.func159,Try.ntmps159
   go_wp2_with (first|((with_reducible refine gate_callee (f:=177) rfl ?_);refine goesL_ (some 10) rfl rfl Try.func177 (by kernel_rfl) rfl #[.int .i64 a0,.int .i64 a1,.int .i64 a2] rfl ml ?_;(with_reducible refine (spec_l01Two.calls k a0 a1 a2 true _ A4.out).mono ?_);rintro e w' ⟨rfl,⟨nd,rfl⟩⟩;refine ⟨_,rfl,?_⟩));go_ret;exact ⟨e1,dn⟩
  ·rw [if_neg c6] at H;have c6b0:decide (a0≤a2)=false:=decide_eq_false c6;clear c6;replace H:=ob H;obtain ⟨A0,A70,H⟩:=H;replace H:(if A0=0 then (none) else (some (wrap64 (Int.tdiv a1 A0))))=some r:=H;have A7:=Aside0.mk A70;clear A70
   by_cases c8:A0=0
   ·rw [if_pos c8] at H;exact absurd H (by simp)
   ·rw [if_neg c8] at H;have c8b0:(A0 == 0)=false:=beq_eq_false_iff_ne.mpr c8;have c8b1:(A0 != 0)=true:=bne_iff_ne.mpr c8;obtain rfl:=os H
    go_enter Try.func159,Try.ntmps159
    go_wp2_with (first|((with_reducible refine gate_callee (f:=177) rfl ?_);refine goesL_ (some 10) rfl rfl Try.func177 (by kernel_rfl) rfl #[.int .i64 a0,.int .i64 a1,.int .i64 a2] rfl ml ?_;(with_reducible refine (spec_l01Two.calls k a0 a1 a2 true _ A4.out).mono ?_);rintro e w' ⟨rfl,⟨nd,rfl⟩⟩;refine ⟨_,rfl,?_⟩)|((with_reducible refine gate_callee (f:=70) rfl ?_);refine goesL_ (some 19) rfl rfl Try.func70 (by kernel_rfl) rfl #[.int .i64 a2] rfl ml ?_;(with_reducible refine (spec_l01Pow2.calls k a2 A0 _ A7.out).mono ?_);rintro e w' ⟨rfl,⟨nd,rfl⟩⟩;refine ⟨_,rfl,?_⟩));go_ret;exact ⟨e1,dn⟩
 ·replace c5:=Bool.eq_false_iff.mpr c5;subst c5
  have H1:(some 0)=some r:=by rw [if_neg (show ¬ (false=true) by decide)] at H;exact H
  clear H;have H:=H1;clear H1;obtain rfl:=os H
  go_enter Try.func159,Try.ntmps159
  go_wp2_with (first|((with_reducible refine gate_callee (f:=177) rfl ?_);refine goesL_ (some 10) rfl rfl Try.func177 (by kernel_rfl) rfl #[.int .i64 a0,.int .i64 a1,.int .i64 a2] rfl ml ?_;(with_reducible refine (spec_l01Two.calls k a0 a1 a2 false _ A4.out).mono ?_);rintro e w' ⟨rfl,⟨nd,rfl⟩⟩;refine ⟨_,rfl,?_⟩));go_ret;exact ⟨e1,dn⟩
def spec_Slice.j0:Nat→Int→Int→Int→Bool→Option (Int)
 | 0,_,_,_,_=>none
 | k + 1,x1,x2,x3,x24=>if x24=true then (some 0) else ((spec_l01Pow2.f k x2).bind fun A1=>(if A1=0 then (none) else ((spec_l01Pow2.f k x3).bind fun A0=>(if A0=0 then (none) else (some (Int.tmod (wrap64 (Int.tdiv x1 A1)) A0))))))
def spec_Slice.f (k:Nat) (a0:Int) (a1:Int) (a2:Int) (a3:Int):Option (Int):=(spec_WordOk.f k a0 a1).bind fun A4=>(if A4=true then (if a2 < 0 then (spec_Slice.j0 k a1 a2 a3 true) else ((spec_l01In.f a3 1 (wrap64 (a0 - a2))).bind fun A2=>(spec_Slice.j0 k a1 a2 a3 (!A2)))) else (spec_Slice.j0 k a1 a2 a3 true))
set_option maxHeartbeats 8000000 in
set_option maxRecDepth 100000 in
theorem spec_Slice.calls (k:Nat) (a0:Int) (a1:Int) (a2:Int) (a3:Int) (r:Int) (w:World) (h:spec_Slice.f k a0 a1 a2 a3=some r) :
  Calls Try.prog 163 #[.int .i64 a0,.int .i64 a1,.int .i64 a2,.int .i64 a3] w fun e w'=>e = .returned (.int .i64 r)∧Drawn0 w w':=by
 have H:((spec_WordOk.f k a0 a1).bind fun A4=>(if A4=true then (if a2 < 0 then (spec_Slice.j0 k a1 a2 a3 true) else ((spec_l01In.f a3 1 (wrap64 (a0 - a2))).bind fun A2=>(spec_Slice.j0 k a1 a2 a3 (!A2)))) else (spec_Slice.j0 k a1 a2 a3 true)))=some r:=h;clear h;have HC5:=Aside0.mk H;clear H
 go_enter Try.func163,Try.ntmps163
 go_upto_region 1 with (fail)
 repeat (go_quiet (fail);go_upto_region 1 with (fail))
 go_cut [24] (fun v24 wc=>∃ (kq:Nat) (A3:Bool),v24 = .bool A3∧Aside0 (spec_Slice.j0 kq a1 a2 a3 A3=some r)∧Aside0 (kq≤k)∧Drawn0 w wc)
 case first =>
  have H:=HC5.out;clear HC5;replace H:=ob H;obtain ⟨A4,A60,H⟩:=H;replace H:(if A4=true then (if a2 < 0 then (spec_Slice.j0 k a1 a2 a3 true) else ((spec_l01In.f a3 1 (wrap64 (a0 - a2))).bind fun A2=>(spec_Slice.j0 k a1 a2 a3 (!A2)))) else (spec_Slice.j0 k a1 a2 a3 true))=some r:=H;have A6:=Aside0.mk A60;clear A60
  by_cases c7:A4=true
  ·subst c7
   have H1:(if a2 < 0 then (spec_Slice.j0 k a1 a2 a3 true) else ((spec_l01In.f a3 1 (wrap64 (a0 - a2))).bind fun A2=>(spec_Slice.j0 k a1 a2 a3 (!A2))))=some r:=by rw [if_pos rfl] at H;exact H
   clear H;have H:=H1;clear H1
   by_cases c8:a2 < 0
   ·rw [if_pos c8] at H;have c8b0:decide (a2 < 0)=true:=decide_eq_true c8;clear c8;(first|rw [c8b0]|(simp only [i64_w,i32_w];rw [c8b0])|skip);have H':=Aside0.mk H;clear H;go_wp2_with (first|(go_at_call 131;(try simp only [i64_w,i32_w]);(with_reducible refine (spec_WordOk.calls k a0 a1 true _ A6.out).mono ?_);rintro e w' ⟨rfl,⟨nd,rfl⟩⟩;(try exact dd)))
    repeat (go_quiet (first|(go_at_call 131;(try simp only [i64_w,i32_w]);(with_reducible refine (spec_WordOk.calls k a0 a1 true _ A6.out).mono ?_);rintro e w' ⟨rfl,⟨nd,rfl⟩⟩;(try exact dd)));try go_wp2_with (first|(go_at_call 131;(try simp only [i64_w,i32_w]);(with_reducible refine (spec_WordOk.calls k a0 a1 true _ A6.out).mono ?_);rintro e w' ⟨rfl,⟨nd,rfl⟩⟩;(try exact dd))))
    go_meet
    case rel=>exact ⟨_,(true),(by first|rfl|(simp;done)|(simp [*];done)),H',⟨by first|omega|exact Nat.le_refl _⟩,by repeat (first|exact Drawn0.refl _|apply Drawn0.step)⟩
   ·rw [if_neg c8] at H;have c8b0:decide (a2 < 0)=false:=decide_eq_false c8;clear c8;(first|rw [c8b0]|(simp only [i64_w,i32_w];rw [c8b0])|skip);replace H:=ob H;obtain ⟨A2,A90,H⟩:=H;replace H:(spec_Slice.j0 k a1 a2 a3 (!A2))=some r:=H;have A9:=Aside0.mk A90;clear A90;have H':=Aside0.mk H;clear H;go_wp2_with (first|(go_at_call 131;(try simp only [i64_w,i32_w]);(with_reducible refine (spec_WordOk.calls k a0 a1 true _ A6.out).mono ?_);rintro e w' ⟨rfl,⟨nd,rfl⟩⟩;(try exact dd))|(go_at_call 69;(try simp only [i64_w,i32_w]);(with_reducible refine (spec_l01In.calls a3 1 (wrap64 (a0 - a2)) A2 _ A9.out).mono ?_);rintro e w' ⟨rfl,⟨nd,rfl⟩⟩;(try exact dd)))
    repeat (go_quiet (first|(go_at_call 131;(try simp only [i64_w,i32_w]);(with_reducible refine (spec_WordOk.calls k a0 a1 true _ A6.out).mono ?_);rintro e w' ⟨rfl,⟨nd,rfl⟩⟩;(try exact dd))|(go_at_call 69;(try simp only [i64_w,i32_w]);(with_reducible refine (spec_l01In.calls a3 1 (wrap64 (a0 - a2)) A2 _ A9.out).mono ?_);rintro e w' ⟨rfl,⟨nd,rfl⟩⟩;(try exact dd)));try go_wp2_with (first|(go_at_call 131;(try simp only [i64_w,i32_w]);(with_reducible refine (spec_WordOk.calls k a0 a1 true _ A6.out).mono ?_);rintro e w' ⟨rfl,⟨nd,rfl⟩⟩;(try exact dd))|(go_at_call 69;(try simp only [i64_w,i32_w]);(with_reducible refine (spec_l01In.calls a3 1 (wrap64 (a0 - a2)) A2 _ A9.out).mono ?_);rintro e w' ⟨rfl,⟨nd,rfl⟩⟩;(try exact dd))))
    go_meet
    case rel=>exact ⟨_,(!A2),(by first|rfl|(simp;done)|(simp [*];done)),H',⟨by first|omega|exact Nat.le_refl _⟩,by repeat (first|exact Drawn0.refl _|apply Drawn0.step)⟩
  ·replace c7:=Bool.eq_false_iff.mpr c7;subst c7
   have H1:(spec_Slice.j0 k a1 a2 a3 true)=some r:=by rw [if_neg (show ¬ (false=true) by decide)] at H;exact H
   clear H;have H:=H1;clear H1;have H':=Aside0.mk H;clear H;go_wp2_with (first|(go_at_call 131;(try simp only [i64_w,i32_w]);(with_reducible refine (spec_WordOk.calls k a0 a1 false _ A6.out).mono ?_);rintro e w' ⟨rfl,⟨nd,rfl⟩⟩;(try exact dd)))
   repeat (go_quiet (first|(go_at_call 131;(try simp only [i64_w,i32_w]);(with_reducible refine (spec_WordOk.calls k a0 a1 false _ A6.out).mono ?_);rintro e w' ⟨rfl,⟨nd,rfl⟩⟩;(try exact dd)));try go_wp2_with (first|(go_at_call 131;(try simp only [i64_w,i32_w]);(with_reducible refine (spec_WordOk.calls k a0 a1 false _ A6.out).mono ?_);rintro e w' ⟨rfl,⟨nd,rfl⟩⟩;(try exact dd))))
   go_meet
   case rel=>exact ⟨_,(true),(by first|rfl|(simp;done)|(simp [*];done)),H',⟨by first|omega|exact Nat.le_refl _⟩,by repeat (first|exact Drawn0.refl _|apply Drawn0.step)⟩
 case rest =>
  clear HC5;(try clear c1);(try clear p2);(try clear p6);(try clear c7);(try clear c8);(try clear c8b0);obtain ⟨kq,A3,rfl,HA,HJ4,⟨mc4,rfl⟩⟩:=hcut
  cases kq with
  | zero=>exact absurd HA.out (by simp [spec_Slice.j0])
  | succ kj4 =>
   have H:=HA.out;clear HA;simp only [spec_Slice.j0] at H
   by_cases c10:A3=true
   ·subst c10
    have H1:(some 0)=some r:=by rw [if_pos rfl] at H;exact H
    clear H;have H:=H1;clear H1;obtain rfl:=os H;go_wp2
    repeat (go_quiet (fail);try go_wp2)
    go_ret;exact ⟨e1,dn⟩
   ·replace c10:=Bool.eq_false_iff.mpr c10;subst c10
    have H1:((spec_l01Pow2.f kj4 a2).bind fun A1=>(if A1=0 then (none) else ((spec_l01Pow2.f kj4 a3).bind fun A0=>(if A0=0 then (none) else (some (Int.tmod (wrap64 (Int.tdiv a1 A1)) A0))))))=some r:=by rw [if_neg (show ¬ (false=true) by decide)] at H;exact H
    clear H;have H:=H1;clear H1;replace H:=ob H;obtain ⟨A1,A110,H⟩:=H;replace H:(if A1=0 then (none) else ((spec_l01Pow2.f kj4 a3).bind fun A0=>(if A0=0 then (none) else (some (Int.tmod (wrap64 (Int.tdiv a1 A1)) A0)))))=some r:=H;have A11:=Aside0.mk A110;clear A110
    by_cases c12:A1=0
    ·rw [if_pos c12] at H;exact absurd H (by simp)
    ·rw [if_neg c12] at H;have c12b0:(A1 == 0)=false:=beq_eq_false_iff_ne.mpr c12;have c12b1:(A1 != 0)=true:=bne_iff_ne.mpr c12;replace H:=ob H;obtain ⟨A0,A130,H⟩:=H;replace H:(if A0=0 then (none) else (some (Int.tmod (wrap64 (Int.tdiv a1 A1)) A0)))=some r:=H;have A13:=Aside0.mk A130;clear A130
     by_cases c14:A0=0
     ·rw [if_pos c14] at H;exact absurd H (by simp)
     ·rw [if_neg c14] at H;have c14b0:(A0 == 0)=false:=beq_eq_false_iff_ne.mpr c14;have c14b1:(A0 != 0)=true:=bne_iff_ne.mpr c14;obtain rfl:=os H;go_wp2_with (first|(go_at_call 70;(try simp only [i64_w,i32_w]);(with_reducible refine (spec_l01Pow2.calls kj4 a2 A1 _ A11.out).mono ?_);rintro e w' ⟨rfl,⟨nd,rfl⟩⟩;(try exact dd))|(go_at_call 70;(try simp only [i64_w,i32_w]);(with_reducible refine (spec_l01Pow2.calls kj4 a3 A0 _ A13.out).mono ?_);rintro e w' ⟨rfl,⟨nd,rfl⟩⟩;(try exact dd)))
      repeat (go_quiet (first|(go_at_call 70;(try simp only [i64_w,i32_w]);(with_reducible refine (spec_l01Pow2.calls kj4 a2 A1 _ A11.out).mono ?_);rintro e w' ⟨rfl,⟨nd,rfl⟩⟩;(try exact dd))|(go_at_call 70;(try simp only [i64_w,i32_w]);(with_reducible refine (spec_l01Pow2.calls kj4 a3 A0 _ A13.out).mono ?_);rintro e w' ⟨rfl,⟨nd,rfl⟩⟩;(try exact dd)));try go_wp2_with (first|(go_at_call 70;(try simp only [i64_w,i32_w]);(with_reducible refine (spec_l01Pow2.calls kj4 a2 A1 _ A11.out).mono ?_);rintro e w' ⟨rfl,⟨nd,rfl⟩⟩;(try exact dd))|(go_at_call 70;(try simp only [i64_w,i32_w]);(with_reducible refine (spec_l01Pow2.calls kj4 a3 A0 _ A13.out).mono ?_);rintro e w' ⟨rfl,⟨nd,rfl⟩⟩;(try exact dd))))
      go_ret;exact ⟨e1,dn⟩
def spec_Sub.f (k:Nat) (a0:Int) (a1:Int) (a2:Int):Option (Int):=(spec_l01Two.f k a0 a1 a2).bind fun A2=>(if A2=true then ((spec_l01Pow2.f k a0).bind fun A1=>((spec_l01Pow2.f k a0).bind fun A0=>(if A0=0 then (none) else (some (Int.tmod (wrap64 ((wrap64 (a1 + A1)) - a2)) A0))))) else (some 0))
set_option maxHeartbeats 8000000 in
set_option maxRecDepth 100000 in
theorem spec_Sub.calls (k:Nat) (a0:Int) (a1:Int) (a2:Int) (r:Int) (w:World) (h:spec_Sub.f k a0 a1 a2=some r) :
  Calls Try.prog 154 #[.int .i64 a0,.int .i64 a1,.int .i64 a2] w fun e w'=>e = .returned (.int .i64 r)∧Drawn0 w w':=by
 have H:((spec_l01Two.f k a0 a1 a2).bind fun A2=>(if A2=true then ((spec_l01Pow2.f k a0).bind fun A1=>((spec_l01Pow2.f k a0).bind fun A0=>(if A0=0 then (none) else (some (Int.tmod (wrap64 ((wrap64 (a1 + A1)) - a2)) A0))))) else (some 0)))=some r:=h;clear h;replace H:=ob H;obtain ⟨A2,A40,H⟩:=H;replace H:(if A2=true then ((spec_l01Pow2.f k a0).bind fun A1=>((spec_l01Pow2.f k a0).bind fun A0=>(if A0=0 then (none) else (some (Int.tmod (wrap64 ((wrap64 (a1 + A1)) - a2)) A0))))) else (some 0))=some r:=H;have A4:=Aside0.mk A40;clear A40
 by_cases c5:A2=true
 ·subst c5
  have H1:((spec_l01Pow2.f k a0).bind fun A1=>((spec_l01Pow2.f k a0).bind fun A0=>(if A0=0 then (none) else (some (Int.tmod (wrap64 ((wrap64 (a1 + A1)) - a2)) A0)))))=some r:=by rw [if_pos rfl] at H;exact H
  clear H;have H:=H1;clear H1;replace H:=ob H;obtain ⟨A1,A60,H⟩:=H;replace H:((spec_l01Pow2.f k a0).bind fun A0=>(if A0=0 then (none) else (some (Int.tmod (wrap64 ((wrap64 (a1 + A1)) - a2)) A0))))=some r:=H;have A6:=Aside0.mk A60;clear A60;replace H:=ob H;obtain ⟨A0,A70,H⟩:=H;replace H:(if A0=0 then (none) else (some (Int.tmod (wrap64 ((wrap64 (a1 + A1)) - a2)) A0)))=some r:=H;have A7:=Aside0.mk A70;clear A70
  by_cases c8:A0=0
  ·rw [if_pos c8] at H;exact absurd H (by simp)
  ·rw [if_neg c8] at H;have c8b0:(A0 == 0)=false:=beq_eq_false_iff_ne.mpr c8;have c8b1:(A0 != 0)=true:=bne_iff_ne.mpr c8;obtain rfl:=os H
   go_enter Try.func154,Try.ntmps154
   go_wp2_with (first|((with_reducible refine gate_callee (f:=177) rfl ?_);refine goesL_ (some 10) rfl rfl Try.func177 (by kernel_rfl) rfl #[.int .i64 a0,.int .i64 a1,.int .i64 a2] rfl ml ?_;(with_reducible refine (spec_l01Two.calls k a0 a1 a2 true _ A4.out).mono ?_);rintro e w' ⟨rfl,⟨nd,rfl⟩⟩;refine ⟨_,rfl,?_⟩)|((with_reducible refine gate_callee (f:=70) rfl ?_);refine goesL_ (some 14) rfl rfl Try.func70 (by kernel_rfl) rfl #[.int .i64 a0] rfl ml ?_;(with_reducible refine (spec_l01Pow2.calls k a0 A1 _ A6.out).mono ?_);rintro e w' ⟨rfl,⟨nd,rfl⟩⟩;refine ⟨_,rfl,?_⟩)|((with_reducible refine gate_callee (f:=70) rfl ?_);refine goesL_ (some 19) rfl rfl Try.func70 (by kernel_rfl) rfl #[.int .i64 a0] rfl ml ?_;(with_reducible refine (spec_l01Pow2.calls k a0 A0 _ A7.out).mono ?_);rintro e w' ⟨rfl,⟨nd,rfl⟩⟩;refine ⟨_,rfl,?_⟩));go_ret;exact ⟨e1,dn⟩
 ·replace c5:=Bool.eq_false_iff.mpr c5;subst c5
  have H1:(some 0)=some r:=by rw [if_neg (show ¬ (false=true) by decide)] at H;exact H
  clear H;have H:=H1;clear H1;obtain rfl:=os H
  go_enter Try.func154,Try.ntmps154
  go_wp2_with (first|((with_reducible refine gate_callee (f:=177) rfl ?_);refine goesL_ (some 10) rfl rfl Try.func177 (by kernel_rfl) rfl #[.int .i64 a0,.int .i64 a1,.int .i64 a2] rfl ml ?_;(with_reducible refine (spec_l01Two.calls k a0 a1 a2 false _ A4.out).mono ?_);rintro e w' ⟨rfl,⟨nd,rfl⟩⟩;refine ⟨_,rfl,?_⟩));go_ret;exact ⟨e1,dn⟩
def spec_Apply.j0:Nat→Int→Int→Int→Int→Bool→Int→Int→Int→Int→Int→Int→Option (Int)
 | 0,_,_,_,_,_,_,_,_,_,_,_=>none
 | k + 1,x1,x2,x3,x4,x34,x102000,x102001,x102002,x102003,x102004,x102005=>if x34=true then (some 0) else (if x102000=0 then (some x102002) else (if x102000=2 then ((spec_Flip.f k x102001 x2).bind fun Ad=>(some Ad)) else (if x102000=3 then (some (Go.bits .and .i64 x2 x3)) else (if x102000=4 then (some (Go.bits .or .i64 x2 x3)) else (if x102000=5 then (some (Go.bits .xor .i64 x2 x3)) else (if x102000=6 then ((spec_Add.f k x102001 x2 x3).bind fun Ae=>(some Ae)) else (if x102000=7 then ((spec_Sub.f k x102001 x2 x3).bind fun Af=>(some Af)) else (if x102000=8 then ((spec_Mul.f k x102001 x2 x3).bind fun Ag=>(some Ag)) else (if x102000=9 then ((spec_Div.f k x102001 x2 x3).bind fun Ah=>(some Ah)) else (if x102000=10 then ((spec_Rem.f k x102001 x2 x3).bind fun Ai=>(some Ai)) else (if x102000=11 then ((spec_Shl.f k x102001 x2 x3).bind fun Aj=>(some Aj)) else (if x102000=12 then ((spec_Shr.f k x102001 x2 x3).bind fun Ak=>(some Ak)) else (if x102000=13 then ((spec_l01Bool.f (x2 == x3)).bind fun Al=>(some Al)) else (if x102000=14 then ((spec_Less.f k x1 x2 x3).bind fun Am=>(some Am)) else (if x102000=15 then ((spec_LessSigned.f k x1 x2 x3).bind fun An=>(some An)) else (if x102000=16 then (if x102001 < x1 then (some x3) else ((spec_l01Pow2.f k (wrap64 (x102001 - x1))).bind fun Ao=>(some (wrap64 ((wrap64 (x2 * Ao)) + x3))))) else (if x102000=17 then ((spec_Slice.f k x1 x2 x102002 x102001).bind fun Ap=>(some Ap)) else (if x102000=18 then (if x2=1 then (some x3) else (some x4)) else (some 0)))))))))))))))))))
def spec_Apply.f (k:Nat) (A0:Int) (A1:Int) (A3:Int) (A4:Int) (A5:Int) (A6:Int) (a1:Int) (a2:Int) (a3:Int) (a4:Int):Option (Int):=(spec_l01In.f A1 1 8).bind fun Aq=>(if Aq=true then ((spec_l01In.f a1 1 8).bind fun Ab=>(if Ab=true then ((spec_l01In.f a2 0 255).bind fun Aa=>(if Aa=true then ((spec_l01In.f a3 0 255).bind fun A9=>(if A9=true then ((spec_l01In.f a4 0 255).bind fun A7=>(spec_Apply.j0 k a1 a2 a3 a4 (!A7) A0 A1 A3 A4 A5 A6)) else (spec_Apply.j0 k a1 a2 a3 a4 true A0 A1 A3 A4 A5 A6))) else (spec_Apply.j0 k a1 a2 a3 a4 true A0 A1 A3 A4 A5 A6))) else (spec_Apply.j0 k a1 a2 a3 a4 true A0 A1 A3 A4 A5 A6))) else (spec_Apply.j0 k a1 a2 a3 a4 true A0 A1 A3 A4 A5 A6))
set_option maxHeartbeats 8000000 in
set_option maxRecDepth 100000 in
theorem spec_Apply.calls (k:Nat) (A0:Int) (A1:Int) (A3:Int) (A4:Int) (A5:Int) (A6:Int) (a1:Int) (a2:Int) (a3:Int) (a4:Int) (r:Int) (w:World) (h:spec_Apply.f k A0 A1 A3 A4 A5 A6 a1 a2 a3 a4=some r) :
  Calls Try.prog 135 #[.agg #[.int .i64 A0,.int .i64 A1,.int .i64 A3,.int .i64 A4,.int .i64 A5,.int .i64 A6],.int .i64 a1,.int .i64 a2,.int .i64 a3,.int .i64 a4] w fun e w'=>e = .returned (.int .i64 r)∧Below w.heap.size w w':=by
 have hu99:=Try.underlying99;have HB:=Aside0.mk (Below.refl w.heap.size w);have H:((spec_l01In.f A1 1 8).bind fun Aq=>(if Aq=true then ((spec_l01In.f a1 1 8).bind fun Ab=>(if Ab=true then ((spec_l01In.f a2 0 255).bind fun Aa=>(if Aa=true then ((spec_l01In.f a3 0 255).bind fun A9=>(if A9=true then ((spec_l01In.f a4 0 255).bind fun A7=>(spec_Apply.j0 k a1 a2 a3 a4 (!A7) A0 A1 A3 A4 A5 A6)) else (spec_Apply.j0 k a1 a2 a3 a4 true A0 A1 A3 A4 A5 A6))) else (spec_Apply.j0 k a1 a2 a3 a4 true A0 A1 A3 A4 A5 A6))) else (spec_Apply.j0 k a1 a2 a3 a4 true A0 A1 A3 A4 A5 A6))) else (spec_Apply.j0 k a1 a2 a3 a4 true A0 A1 A3 A4 A5 A6)))=some r:=h;clear h;have HC6:=Aside0.mk H;clear H
 go_enter Try.func135,Try.ntmps135
 go_upto_region 1 with (first|((with_reducible refine gate_dst (N:=5) rfl ?_);refine bx (N:=5) (cs:=#[.int .i64 A0,.int .i64 A1,.int .i64 A3,.int .i64 A4,.int .i64 A5,.int .i64 A6]) (t:=99) ?_;intro Ar hg w7 hbox hb;have A2:=Aside0.mk (hbox);have GW101:=Aside0.mk ((by rw [hg];exact (below_size (tb HB)):w.heap.size≤Ar));have GE101:=Aside0.mk ((by rw [hg];exact (below_size (tb HB)):w.heap.size≤Ar));replace HB:=Aside0.mk (below_step (tb HB) hb);clear hb hbox hg))
 (try simp only [Act.put,List.setIfInBounds_toArray,List.set_cons_zero,List.set_cons_succ])
 go_cut [34] (fun v34 wc=>∃ (kq:Nat) (Ac:Bool),v34 = .bool Ac∧Aside0 (spec_Apply.j0 kq a1 a2 a3 a4 Ac A0 A1 A3 A4 A5 A6=some r)∧Aside0 (kq≤k)∧Aside0 (wc.heap[Ar]? = some (.cells #[.int .i64 A0,.int .i64 A1,.int .i64 A3,.int .i64 A4,.int .i64 A5,.int .i64 A6] 99 (0,0)))∧Aside0 (Below w.heap.size w wc))
 case first =>
  have H:=HC6.out;clear HC6;replace H:=ob H;obtain ⟨Aq,A80,H⟩:=H;replace H:(if Aq=true then ((spec_l01In.f a1 1 8).bind fun Ab=>(if Ab=true then ((spec_l01In.f a2 0 255).bind fun Aa=>(if Aa=true then ((spec_l01In.f a3 0 255).bind fun A9=>(if A9=true then ((spec_l01In.f a4 0 255).bind fun A7=>(spec_Apply.j0 k a1 a2 a3 a4 (!A7) A0 A1 A3 A4 A5 A6)) else (spec_Apply.j0 k a1 a2 a3 a4 true A0 A1 A3 A4 A5 A6))) else (spec_Apply.j0 k a1 a2 a3 a4 true A0 A1 A3 A4 A5 A6))) else (spec_Apply.j0 k a1 a2 a3 a4 true A0 A1 A3 A4 A5 A6))) else (spec_Apply.j0 k a1 a2 a3 a4 true A0 A1 A3 A4 A5 A6))=some r:=H;have A8:=Aside0.mk A80;clear A80
  by_cases c9:Aq=true
  ·subst c9
   have H1:((spec_l01In.f a1 1 8).bind fun Ab=>(if Ab=true then ((spec_l01In.f a2 0 255).bind fun Aa=>(if Aa=true then ((spec_l01In.f a3 0 255).bind fun A9=>(if A9=true then ((spec_l01In.f a4 0 255).bind fun A7=>(spec_Apply.j0 k a1 a2 a3 a4 (!A7) A0 A1 A3 A4 A5 A6)) else (spec_Apply.j0 k a1 a2 a3 a4 true A0 A1 A3 A4 A5 A6))) else (spec_Apply.j0 k a1 a2 a3 a4 true A0 A1 A3 A4 A5 A6))) else (spec_Apply.j0 k a1 a2 a3 a4 true A0 A1 A3 A4 A5 A6)))=some r:=by rw [if_pos rfl] at H;exact H
   clear H;have H:=H1;clear H1;replace H:=ob H;obtain ⟨Ab,A100,H⟩:=H;replace H:(if Ab=true then ((spec_l01In.f a2 0 255).bind fun Aa=>(if Aa=true then ((spec_l01In.f a3 0 255).bind fun A9=>(if A9=true then ((spec_l01In.f a4 0 255).bind fun A7=>(spec_Apply.j0 k a1 a2 a3 a4 (!A7) A0 A1 A3 A4 A5 A6)) else (spec_Apply.j0 k a1 a2 a3 a4 true A0 A1 A3 A4 A5 A6))) else (spec_Apply.j0 k a1 a2 a3 a4 true A0 A1 A3 A4 A5 A6))) else (spec_Apply.j0 k a1 a2 a3 a4 true A0 A1 A3 A4 A5 A6))=some r:=H;have A10:=Aside0.mk A100;clear A100
   by_cases c11:Ab=true
   ·subst c11
    have H1:((spec_l01In.f a2 0 255).bind fun Aa=>(if Aa=true then ((spec_l01In.f a3 0 255).bind fun A9=>(if A9=true then ((spec_l01In.f a4 0 255).bind fun A7=>(spec_Apply.j0 k a1 a2 a3 a4 (!A7) A0 A1 A3 A4 A5 A6)) else (spec_Apply.j0 k a1 a2 a3 a4 true A0 A1 A3 A4 A5 A6))) else (spec_Apply.j0 k a1 a2 a3 a4 true A0 A1 A3 A4 A5 A6)))=some r:=by rw [if_pos rfl] at H;exact H
    clear H;have H:=H1;clear H1;replace H:=ob H;obtain ⟨Aa,A120,H⟩:=H;replace H:(if Aa=true then ((spec_l01In.f a3 0 255).bind fun A9=>(if A9=true then ((spec_l01In.f a4 0 255).bind fun A7=>(spec_Apply.j0 k a1 a2 a3 a4 (!A7) A0 A1 A3 A4 A5 A6)) else (spec_Apply.j0 k a1 a2 a3 a4 true A0 A1 A3 A4 A5 A6))) else (spec_Apply.j0 k a1 a2 a3 a4 true A0 A1 A3 A4 A5 A6))=some r:=H;have A12:=Aside0.mk A120;clear A120
    by_cases c13:Aa=true
    ·subst c13
     have H1:((spec_l01In.f a3 0 255).bind fun A9=>(if A9=true then ((spec_l01In.f a4 0 255).bind fun A7=>(spec_Apply.j0 k a1 a2 a3 a4 (!A7) A0 A1 A3 A4 A5 A6)) else (spec_Apply.j0 k a1 a2 a3 a4 true A0 A1 A3 A4 A5 A6)))=some r:=by rw [if_pos rfl] at H;exact H
     clear H;have H:=H1;clear H1;replace H:=ob H;obtain ⟨A9,A140,H⟩:=H;replace H:(if A9=true then ((spec_l01In.f a4 0 255).bind fun A7=>(spec_Apply.j0 k a1 a2 a3 a4 (!A7) A0 A1 A3 A4 A5 A6)) else (spec_Apply.j0 k a1 a2 a3 a4 true A0 A1 A3 A4 A5 A6))=some r:=H;have A14:=Aside0.mk A140;clear A140
     by_cases c15:A9=true
     ·subst c15
      have H1:((spec_l01In.f a4 0 255).bind fun A7=>(spec_Apply.j0 k a1 a2 a3 a4 (!A7) A0 A1 A3 A4 A5 A6))=some r:=by rw [if_pos rfl] at H;exact H
      clear H;have H:=H1;clear H1;replace H:=ob H;obtain ⟨A7,A160,H⟩:=H;replace H:(spec_Apply.j0 k a1 a2 a3 a4 (!A7) A0 A1 A3 A4 A5 A6)=some r:=H;have A16:=Aside0.mk A160;clear A160;have H':=Aside0.mk H;clear H;have hcz17__:=c6_ A2;have hfz17__:=f_ A2;go_wp2_with (first|((with_reducible refine gate_callee (f:=69) rfl ?_);refine goesL_ (some 13) rfl rfl Try.func69 (by kernel_rfl) rfl #[.int .i64 A1,.int .i64 1,.int .i64 8] rfl ml ?_;(with_reducible refine (spec_l01In.calls A1 1 8 true _ A8.out).mono ?_);rintro e w' ⟨rfl,⟨nd,rfl⟩⟩;refine ⟨_,rfl,?_⟩)|(go_at_call 69;(try simp only [i64_w,i32_w]);(with_reducible refine (spec_l01In.calls a1 1 8 true _ A10.out).mono ?_);rintro e w' ⟨rfl,⟨nd,rfl⟩⟩)|(go_at_call 69;(try simp only [i64_w,i32_w]);(with_reducible refine (spec_l01In.calls a2 0 255 true _ A12.out).mono ?_);rintro e w' ⟨rfl,⟨nd,rfl⟩⟩)|(go_at_call 69;(try simp only [i64_w,i32_w]);(with_reducible refine (spec_l01In.calls a3 0 255 true _ A14.out).mono ?_);rintro e w' ⟨rfl,⟨nd,rfl⟩⟩)|(go_at_call 69;(try simp only [i64_w,i32_w]);(with_reducible refine (spec_l01In.calls a4 0 255 A7 _ A16.out).mono ?_);rintro e w' ⟨rfl,⟨nd,rfl⟩⟩));go_meet
      case rel=>exact ⟨_,(!A7),(by first|rfl|(simp;done)|(simp [*];done)),H',⟨by first|omega|exact Nat.le_refl _⟩,⟨dr A2⟩,⟨by exact tb HB⟩⟩
     ·replace c15:=Bool.eq_false_iff.mpr c15;subst c15
      have H1:(spec_Apply.j0 k a1 a2 a3 a4 true A0 A1 A3 A4 A5 A6)=some r:=by rw [if_neg (show ¬ (false=true) by decide)] at H;exact H
      clear H;have H:=H1;clear H1;have H':=Aside0.mk H;clear H;have hcz18__:=c6_ A2;have hfz18__:=f_ A2;go_wp2_with (first|((with_reducible refine gate_callee (f:=69) rfl ?_);refine goesL_ (some 13) rfl rfl Try.func69 (by kernel_rfl) rfl #[.int .i64 A1,.int .i64 1,.int .i64 8] rfl ml ?_;(with_reducible refine (spec_l01In.calls A1 1 8 true _ A8.out).mono ?_);rintro e w' ⟨rfl,⟨nd,rfl⟩⟩;refine ⟨_,rfl,?_⟩)|(go_at_call 69;(try simp only [i64_w,i32_w]);(with_reducible refine (spec_l01In.calls a1 1 8 true _ A10.out).mono ?_);rintro e w' ⟨rfl,⟨nd,rfl⟩⟩)|(go_at_call 69;(try simp only [i64_w,i32_w]);(with_reducible refine (spec_l01In.calls a2 0 255 true _ A12.out).mono ?_);rintro e w' ⟨rfl,⟨nd,rfl⟩⟩)|(go_at_call 69;(try simp only [i64_w,i32_w]);(with_reducible refine (spec_l01In.calls a3 0 255 false _ A14.out).mono ?_);rintro e w' ⟨rfl,⟨nd,rfl⟩⟩));go_meet
      case rel=>exact ⟨_,(true),(by first|rfl|(simp;done)|(simp [*];done)),H',⟨by first|omega|exact Nat.le_refl _⟩,⟨dr A2⟩,⟨by exact tb HB⟩⟩
    ·replace c13:=Bool.eq_false_iff.mpr c13;subst c13
     have H1:(spec_Apply.j0 k a1 a2 a3 a4 true A0 A1 A3 A4 A5 A6)=some r:=by rw [if_neg (show ¬ (false=true) by decide)] at H;exact H
     clear H;have H:=H1;clear H1;have H':=Aside0.mk H;clear H;have hcz19__:=c6_ A2;have hfz19__:=f_ A2;go_wp2_with (first|((with_reducible refine gate_callee (f:=69) rfl ?_);refine goesL_ (some 13) rfl rfl Try.func69 (by kernel_rfl) rfl #[.int .i64 A1,.int .i64 1,.int .i64 8] rfl ml ?_;(with_reducible refine (spec_l01In.calls A1 1 8 true _ A8.out).mono ?_);rintro e w' ⟨rfl,⟨nd,rfl⟩⟩;refine ⟨_,rfl,?_⟩)|(go_at_call 69;(try simp only [i64_w,i32_w]);(with_reducible refine (spec_l01In.calls a1 1 8 true _ A10.out).mono ?_);rintro e w' ⟨rfl,⟨nd,rfl⟩⟩)|(go_at_call 69;(try simp only [i64_w,i32_w]);(with_reducible refine (spec_l01In.calls a2 0 255 false _ A12.out).mono ?_);rintro e w' ⟨rfl,⟨nd,rfl⟩⟩));go_meet
     case rel=>exact ⟨_,(true),(by first|rfl|(simp;done)|(simp [*];done)),H',⟨by first|omega|exact Nat.le_refl _⟩,⟨dr A2⟩,⟨by exact tb HB⟩⟩
   ·replace c11:=Bool.eq_false_iff.mpr c11;subst c11
    have H1:(spec_Apply.j0 k a1 a2 a3 a4 true A0 A1 A3 A4 A5 A6)=some r:=by rw [if_neg (show ¬ (false=true) by decide)] at H;exact H
    clear H;have H:=H1;clear H1;have H':=Aside0.mk H;clear H;have hcz20__:=c6_ A2;have hfz20__:=f_ A2;go_wp2_with (first|((with_reducible refine gate_callee (f:=69) rfl ?_);refine goesL_ (some 13) rfl rfl Try.func69 (by kernel_rfl) rfl #[.int .i64 A1,.int .i64 1,.int .i64 8] rfl ml ?_;(with_reducible refine (spec_l01In.calls A1 1 8 true _ A8.out).mono ?_);rintro e w' ⟨rfl,⟨nd,rfl⟩⟩;refine ⟨_,rfl,?_⟩)|(go_at_call 69;(try simp only [i64_w,i32_w]);(with_reducible refine (spec_l01In.calls a1 1 8 false _ A10.out).mono ?_);rintro e w' ⟨rfl,⟨nd,rfl⟩⟩));go_meet
    case rel=>exact ⟨_,(true),(by first|rfl|(simp;done)|(simp [*];done)),H',⟨by first|omega|exact Nat.le_refl _⟩,⟨dr A2⟩,⟨by exact tb HB⟩⟩
  ·replace c9:=Bool.eq_false_iff.mpr c9;subst c9
   have H1:(spec_Apply.j0 k a1 a2 a3 a4 true A0 A1 A3 A4 A5 A6)=some r:=by rw [if_neg (show ¬ (false=true) by decide)] at H;exact H
   clear H;have H:=H1;clear H1;have H':=Aside0.mk H;clear H;have hcz21__:=c6_ A2;have hfz21__:=f_ A2;go_wp2_with (first|((with_reducible refine gate_callee (f:=69) rfl ?_);refine goesL_ (some 13) rfl rfl Try.func69 (by kernel_rfl) rfl #[.int .i64 A1,.int .i64 1,.int .i64 8] rfl ml ?_;(with_reducible refine (spec_l01In.calls A1 1 8 false _ A8.out).mono ?_);rintro e w' ⟨rfl,⟨nd,rfl⟩⟩;refine ⟨_,rfl,?_⟩));go_meet
   case rel=>exact ⟨_,(true),(by first|rfl|(simp;done)|(simp [*];done)),H',⟨by first|omega|exact Nat.le_refl _⟩,⟨dr A2⟩,⟨by exact tb HB⟩⟩
 case rest =>
  clear HC6;(try clear c1);(try clear p2);(try clear c6);(try clear c9);(try clear c11);(try clear c13);(try clear c15);(try clear hcz17__);(try clear hcz18__);(try clear hcz19__);(try clear hcz20__);(try clear hcz21__);(try clear hfz17__);(try clear hfz18__);(try clear hfz19__);(try clear hfz20__);(try clear hfz21__);obtain ⟨kq,Ac,rfl,HA,HJ5,A2,HB⟩:=hcut
  cases kq with
  | zero=>exact absurd HA.out (by simp [spec_Apply.j0])
  | succ kj5 =>
   have H:=HA.out;clear HA;simp only [spec_Apply.j0] at H
   by_cases c22:Ac=true
   ·subst c22
    have H1:(some 0)=some r:=by rw [if_pos rfl] at H;exact H
    clear H;have H:=H1;clear H1;obtain rfl:=os H;go_wp2;go_ret;exact ⟨er,tb HB⟩
   ·replace c22:=Bool.eq_false_iff.mpr c22;subst c22
    have H1:(if A0=0 then (some A3) else (if A0=2 then ((spec_Flip.f kj5 A1 a2).bind fun Ad=>(some Ad)) else (if A0=3 then (some (Go.bits .and .i64 a2 a3)) else (if A0=4 then (some (Go.bits .or .i64 a2 a3)) else (if A0=5 then (some (Go.bits .xor .i64 a2 a3)) else (if A0=6 then ((spec_Add.f kj5 A1 a2 a3).bind fun Ae=>(some Ae)) else (if A0=7 then ((spec_Sub.f kj5 A1 a2 a3).bind fun Af=>(some Af)) else (if A0=8 then ((spec_Mul.f kj5 A1 a2 a3).bind fun Ag=>(some Ag)) else (if A0=9 then ((spec_Div.f kj5 A1 a2 a3).bind fun Ah=>(some Ah)) else (if A0=10 then ((spec_Rem.f kj5 A1 a2 a3).bind fun Ai=>(some Ai)) else (if A0=11 then ((spec_Shl.f kj5 A1 a2 a3).bind fun Aj=>(some Aj)) else (if A0=12 then ((spec_Shr.f kj5 A1 a2 a3).bind fun Ak=>(some Ak)) else (if A0=13 then ((spec_l01Bool.f (a2 == a3)).bind fun Al=>(some Al)) else (if A0=14 then ((spec_Less.f kj5 a1 a2 a3).bind fun Am=>(some Am)) else (if A0=15 then ((spec_LessSigned.f kj5 a1 a2 a3).bind fun An=>(some An)) else (if A0=16 then (if A1 < a1 then (some a3) else ((spec_l01Pow2.f kj5 (wrap64 (A1 - a1))).bind fun Ao=>(some (wrap64 ((wrap64 (a2 * Ao)) + a3))))) else (if A0=17 then ((spec_Slice.f kj5 a1 a2 A3 A1).bind fun Ap=>(some Ap)) else (if A0=18 then (if a2=1 then (some a3) else (some a4)) else (some 0)))))))))))))))))))=some r:=by rw [if_neg (show ¬ (false=true) by decide)] at H;exact H
    clear H;have H:=H1;clear H1
    by_cases c23:A0=0
    ·rw [if_pos c23] at H;have c23b0:(A0 == 0)=true:=beq_iff_eq.mpr c23;have c23b1:(A0 != 0)=false:=bne_eq_false_iff_eq.mpr c23;clear c23;obtain rfl:=os H;have hcz24__:=c6_ A2;have hfz24__:=f_ A2;go_wp2;go_ret;exact ⟨er,tb HB⟩
    ·rw [if_neg c23] at H;have c23b0:(A0 == 0)=false:=beq_eq_false_iff_ne.mpr c23;have c23b1:(A0 != 0)=true:=bne_iff_ne.mpr c23
     by_cases c25:A0=2
     ·rw [if_pos c25] at H;have c25b0:(A0 == 2)=true:=beq_iff_eq.mpr c25;have c25b1:(A0 != 2)=false:=bne_eq_false_iff_eq.mpr c25;clear c25;replace H:=ob H;obtain ⟨Ad,A260,H⟩:=H;replace H:(some Ad)=some r:=H;have A26:=Aside0.mk A260;clear A260;obtain rfl:=os H;have hcz27__:=c6_ A2;have hfz27__:=f_ A2;go_wp2_with (first|((with_reducible refine gate_callee (f:=152) rfl ?_);refine goesL_ (some 46) rfl rfl Try.func152 (by kernel_rfl) rfl #[.int .i64 A1,.int .i64 a2] rfl ml ?_;(with_reducible refine (spec_Flip.calls kj5 A1 a2 Ad _ A26.out).mono ?_);rintro e w' ⟨rfl,⟨nd,rfl⟩⟩;refine ⟨_,rfl,?_⟩));go_ret;exact ⟨er,tb HB⟩
     ·rw [if_neg c25] at H;have c25b0:(A0 == 2)=false:=beq_eq_false_iff_ne.mpr c25;have c25b1:(A0 != 2)=true:=bne_iff_ne.mpr c25
      by_cases c28:A0=3
      ·rw [if_pos c28] at H;have c28b0:(A0 == 3)=true:=beq_iff_eq.mpr c28;have c28b1:(A0 != 3)=false:=bne_eq_false_iff_eq.mpr c28;clear c28;obtain rfl:=os H;have hcz29__:=c6_ A2;have hfz29__:=f_ A2;go_wp2;go_ret;exact ⟨er,tb HB⟩
      ·rw [if_neg c28] at H;have c28b0:(A0 == 3)=false:=beq_eq_false_iff_ne.mpr c28;have c28b1:(A0 != 3)=true:=bne_iff_ne.mpr c28
       by_cases c30:A0=4
       ·rw [if_pos c30] at H;have c30b0:(A0 == 4)=true:=beq_iff_eq.mpr c30;have c30b1:(A0 != 4)=false:=bne_eq_false_iff_eq.mpr c30;clear c30;obtain rfl:=os H;have hcz31__:=c6_ A2;have hfz31__:=f_ A2;go_wp2;go_ret;exact ⟨er,tb HB⟩
       ·rw [if_neg c30] at H;have c30b0:(A0 == 4)=false:=beq_eq_false_iff_ne.mpr c30;have c30b1:(A0 != 4)=true:=bne_iff_ne.mpr c30
        by_cases c32:A0=5
        ·rw [if_pos c32] at H;have c32b0:(A0 == 5)=true:=beq_iff_eq.mpr c32;have c32b1:(A0 != 5)=false:=bne_eq_false_iff_eq.mpr c32;clear c32;obtain rfl:=os H;have hcz33__:=c6_ A2;have hfz33__:=f_ A2;go_wp2;go_ret;exact ⟨er,tb HB⟩
        ·rw [if_neg c32] at H;have c32b0:(A0 == 5)=false:=beq_eq_false_iff_ne.mpr c32;have c32b1:(A0 != 5)=true:=bne_iff_ne.mpr c32
         by_cases c34:A0=6
         ·rw [if_pos c34] at H;have c34b0:(A0 == 6)=true:=beq_iff_eq.mpr c34;have c34b1:(A0 != 6)=false:=bne_eq_false_iff_eq.mpr c34;clear c34;replace H:=ob H;obtain ⟨Ae,A350,H⟩:=H;replace H:(some Ae)=some r:=H;have A35:=Aside0.mk A350;clear A350;obtain rfl:=os H;have hcz36__:=c6_ A2;have hfz36__:=f_ A2;go_wp2_with (first|((with_reducible refine gate_callee (f:=153) rfl ?_);refine goesL_ (some 68) rfl rfl Try.func153 (by kernel_rfl) rfl #[.int .i64 A1,.int .i64 a2,.int .i64 a3] rfl ml ?_;(with_reducible refine (spec_Add.calls kj5 A1 a2 a3 Ae _ A35.out).mono ?_);rintro e w' ⟨rfl,⟨nd,rfl⟩⟩;refine ⟨_,rfl,?_⟩));go_ret;exact ⟨er,tb HB⟩
         ·rw [if_neg c34] at H;have c34b0:(A0 == 6)=false:=beq_eq_false_iff_ne.mpr c34;have c34b1:(A0 != 6)=true:=bne_iff_ne.mpr c34
          by_cases c37:A0=7
          ·rw [if_pos c37] at H;have c37b0:(A0 == 7)=true:=beq_iff_eq.mpr c37;have c37b1:(A0 != 7)=false:=bne_eq_false_iff_eq.mpr c37;clear c37;replace H:=ob H;obtain ⟨Af,A380,H⟩:=H;replace H:(some Af)=some r:=H;have A38:=Aside0.mk A380;clear A380;obtain rfl:=os H;have hcz39__:=c6_ A2;have hfz39__:=f_ A2;go_wp2_with (first|((with_reducible refine gate_callee (f:=154) rfl ?_);refine goesL_ (some 75) rfl rfl Try.func154 (by kernel_rfl) rfl #[.int .i64 A1,.int .i64 a2,.int .i64 a3] rfl ml ?_;(with_reducible refine (spec_Sub.calls kj5 A1 a2 a3 Af _ A38.out).mono ?_);rintro e w' ⟨rfl,⟨nd,rfl⟩⟩;refine ⟨_,rfl,?_⟩));go_ret;exact ⟨er,tb HB⟩
          ·rw [if_neg c37] at H;have c37b0:(A0 == 7)=false:=beq_eq_false_iff_ne.mpr c37;have c37b1:(A0 != 7)=true:=bne_iff_ne.mpr c37
           by_cases c40:A0=8
           ·rw [if_pos c40] at H;have c40b0:(A0 == 8)=true:=beq_iff_eq.mpr c40;have c40b1:(A0 != 8)=false:=bne_eq_false_iff_eq.mpr c40;clear c40;replace H:=ob H;obtain ⟨Ag,A410,H⟩:=H;replace H:(some Ag)=some r:=H;have A41:=Aside0.mk A410;clear A410;obtain rfl:=os H;have hcz42__:=c6_ A2;have hfz42__:=f_ A2;go_wp2_with (first|((with_reducible refine gate_callee (f:=155) rfl ?_);refine goesL_ (some 82) rfl rfl Try.func155 (by kernel_rfl) rfl #[.int .i64 A1,.int .i64 a2,.int .i64 a3] rfl ml ?_;(with_reducible refine (spec_Mul.calls kj5 A1 a2 a3 Ag _ A41.out).mono ?_);rintro e w' ⟨rfl,⟨nd,rfl⟩⟩;refine ⟨_,rfl,?_⟩));go_ret;exact ⟨er,tb HB⟩
           ·rw [if_neg c40] at H;have c40b0:(A0 == 8)=false:=beq_eq_false_iff_ne.mpr c40;have c40b1:(A0 != 8)=true:=bne_iff_ne.mpr c40
            by_cases c43:A0=9
            ·rw [if_pos c43] at H;have c43b0:(A0 == 9)=true:=beq_iff_eq.mpr c43;have c43b1:(A0 != 9)=false:=bne_eq_false_iff_eq.mpr c43;clear c43;replace H:=ob H;obtain ⟨Ah,A440,H⟩:=H;replace H:(some Ah)=some r:=H;have A44:=Aside0.mk A440;clear A440;obtain rfl:=os H;have hcz45__:=c6_ A2;have hfz45__:=f_ A2;go_wp2_with (first|((with_reducible refine gate_callee (f:=156) rfl ?_);refine goesL_ (some 89) rfl rfl Try.func156 (by kernel_rfl) rfl #[.int .i64 A1,.int .i64 a2,.int .i64 a3] rfl ml ?_;(with_reducible refine (spec_Div.calls kj5 A1 a2 a3 Ah _ A44.out).mono ?_);rintro e w' ⟨rfl,⟨nd,rfl⟩⟩;refine ⟨_,rfl,?_⟩));go_ret;exact ⟨er,tb HB⟩
            ·rw [if_neg c43] at H;have c43b0:(A0 == 9)=false:=beq_eq_false_iff_ne.mpr c43;have c43b1:(A0 != 9)=true:=bne_iff_ne.mpr c43
             by_cases c46:A0=10
             ·rw [if_pos c46] at H;have c46b0:(A0 == 10)=true:=beq_iff_eq.mpr c46;have c46b1:(A0 != 10)=false:=bne_eq_false_iff_eq.mpr c46;clear c46;replace H:=ob H;obtain ⟨Ai,A470,H⟩:=H;replace H:(some Ai)=some r:=H;have A47:=Aside0.mk A470;clear A470;obtain rfl:=os H;have hcz48__:=c6_ A2;have hfz48__:=f_ A2;go_wp2_with (first|((with_reducible refine gate_callee (f:=157) rfl ?_);refine goesL_ (some 96) rfl rfl Try.func157 (by kernel_rfl) rfl #[.int .i64 A1,.int .i64 a2,.int .i64 a3] rfl ml ?_;(with_reducible refine (spec_Rem.calls kj5 A1 a2 a3 Ai _ A47.out).mono ?_);rintro e w' ⟨rfl,⟨nd,rfl⟩⟩;refine ⟨_,rfl,?_⟩));go_ret;exact ⟨er,tb HB⟩
             ·rw [if_neg c46] at H;have c46b0:(A0 == 10)=false:=beq_eq_false_iff_ne.mpr c46;have c46b1:(A0 != 10)=true:=bne_iff_ne.mpr c46
              by_cases c49:A0=11
              ·rw [if_pos c49] at H;have c49b0:(A0 == 11)=true:=beq_iff_eq.mpr c49;have c49b1:(A0 != 11)=false:=bne_eq_false_iff_eq.mpr c49;clear c49;replace H:=ob H;obtain ⟨Aj,A500,H⟩:=H;replace H:(some Aj)=some r:=H;have A50:=Aside0.mk A500;clear A500;obtain rfl:=os H;have hcz51__:=c6_ A2;have hfz51__:=f_ A2;go_wp2_with (first|((with_reducible refine gate_callee (f:=158) rfl ?_);refine goesL_ (some 103) rfl rfl Try.func158 (by kernel_rfl) rfl #[.int .i64 A1,.int .i64 a2,.int .i64 a3] rfl ml ?_;(with_reducible refine (spec_Shl.calls kj5 A1 a2 a3 Aj _ A50.out).mono ?_);rintro e w' ⟨rfl,⟨nd,rfl⟩⟩;refine ⟨_,rfl,?_⟩));go_ret;exact ⟨er,tb HB⟩
              ·rw [if_neg c49] at H;have c49b0:(A0 == 11)=false:=beq_eq_false_iff_ne.mpr c49;have c49b1:(A0 != 11)=true:=bne_iff_ne.mpr c49
               by_cases c52:A0=12
               ·rw [if_pos c52] at H;have c52b0:(A0 == 12)=true:=beq_iff_eq.mpr c52;have c52b1:(A0 != 12)=false:=bne_eq_false_iff_eq.mpr c52;clear c52;replace H:=ob H;obtain ⟨Ak,A530,H⟩:=H;replace H:(some Ak)=some r:=H;have A53:=Aside0.mk A530;clear A530;obtain rfl:=os H;have hcz54__:=c6_ A2;have hfz54__:=f_ A2;go_wp2_with (first|((with_reducible refine gate_callee (f:=159) rfl ?_);refine goesL_ (some 110) rfl rfl Try.func159 (by kernel_rfl) rfl #[.int .i64 A1,.int .i64 a2,.int .i64 a3] rfl ml ?_;(with_reducible refine (spec_Shr.calls kj5 A1 a2 a3 Ak _ A53.out).mono ?_);rintro e w' ⟨rfl,⟨nd,rfl⟩⟩;refine ⟨_,rfl,?_⟩));go_ret;exact ⟨er,tb HB⟩
               ·rw [if_neg c52] at H;have c52b0:(A0 == 12)=false:=beq_eq_false_iff_ne.mpr c52;have c52b1:(A0 != 12)=true:=bne_iff_ne.mpr c52
                by_cases c55:A0=13
                ·rw [if_pos c55] at H;have c55b0:(A0 == 13)=true:=beq_iff_eq.mpr c55;have c55b1:(A0 != 13)=false:=bne_eq_false_iff_eq.mpr c55;clear c55;replace H:=ob H;obtain ⟨Al,A560,H⟩:=H;replace H:(some Al)=some r:=H;have A56:=Aside0.mk A560;clear A560;obtain rfl:=os H;have hcz57__:=c6_ A2;have hfz57__:=f_ A2;go_wp2_with (first|((with_reducible refine gate_callee (f:=160) rfl ?_);refine goesL_ (some 116) rfl rfl Try.func160 (by kernel_rfl) rfl #[.bool (a2 == a3)] rfl ml ?_;(with_reducible refine (spec_l01Bool.calls (a2 == a3) Al _ A56.out).mono ?_);rintro e w' ⟨rfl,⟨nd,rfl⟩⟩;refine ⟨_,rfl,?_⟩));go_ret;exact ⟨er,tb HB⟩
                ·rw [if_neg c55] at H;have c55b0:(A0 == 13)=false:=beq_eq_false_iff_ne.mpr c55;have c55b1:(A0 != 13)=true:=bne_iff_ne.mpr c55
                 by_cases c58:A0=14
                 ·rw [if_pos c58] at H;have c58b0:(A0 == 14)=true:=beq_iff_eq.mpr c58;have c58b1:(A0 != 14)=false:=bne_eq_false_iff_eq.mpr c58;clear c58;replace H:=ob H;obtain ⟨Am,A590,H⟩:=H;replace H:(some Am)=some r:=H;have A59:=Aside0.mk A590;clear A590;obtain rfl:=os H;have hcz60__:=c6_ A2;have hfz60__:=f_ A2;go_wp2_with (first|((with_reducible refine gate_callee (f:=161) rfl ?_);refine goesL_ (some 122) rfl rfl Try.func161 (by kernel_rfl) rfl #[.int .i64 a1,.int .i64 a2,.int .i64 a3] rfl ml ?_;(with_reducible refine (spec_Less.calls kj5 a1 a2 a3 Am _ A59.out).mono ?_);rintro e w' ⟨rfl,⟨nd,rfl⟩⟩;refine ⟨_,rfl,?_⟩));go_ret;exact ⟨er,tb HB⟩
                 ·rw [if_neg c58] at H;have c58b0:(A0 == 14)=false:=beq_eq_false_iff_ne.mpr c58;have c58b1:(A0 != 14)=true:=bne_iff_ne.mpr c58
                  by_cases c61:A0=15
                  ·rw [if_pos c61] at H;have c61b0:(A0 == 15)=true:=beq_iff_eq.mpr c61;have c61b1:(A0 != 15)=false:=bne_eq_false_iff_eq.mpr c61;clear c61;replace H:=ob H;obtain ⟨An,A620,H⟩:=H;replace H:(some An)=some r:=H;have A62:=Aside0.mk A620;clear A620;obtain rfl:=os H;have hcz63__:=c6_ A2;have hfz63__:=f_ A2;go_wp2_with (first|((with_reducible refine gate_callee (f:=162) rfl ?_);refine goesL_ (some 128) rfl rfl Try.func162 (by kernel_rfl) rfl #[.int .i64 a1,.int .i64 a2,.int .i64 a3] rfl ml ?_;(with_reducible refine (spec_LessSigned.calls kj5 a1 a2 a3 An _ A62.out).mono ?_);rintro e w' ⟨rfl,⟨nd,rfl⟩⟩;refine ⟨_,rfl,?_⟩));go_ret;exact ⟨er,tb HB⟩
                  ·rw [if_neg c61] at H;have c61b0:(A0 == 15)=false:=beq_eq_false_iff_ne.mpr c61;have c61b1:(A0 != 15)=true:=bne_iff_ne.mpr c61
                   by_cases c64:A0=16
                   ·rw [if_pos c64] at H;have c64b0:(A0 == 16)=true:=beq_iff_eq.mpr c64;have c64b1:(A0 != 16)=false:=bne_eq_false_iff_eq.mpr c64;clear c64
                    by_cases c65:A1 < a1
                    ·rw [if_pos c65] at H;have c65b0:decide (A1 < a1)=true:=decide_eq_true c65;clear c65;obtain rfl:=os H;have hcz66__:=c6_ A2;have hfz66__:=f_ A2;go_wp2;go_ret;exact ⟨er,tb HB⟩
                    ·rw [if_neg c65] at H;have c65b0:decide (A1 < a1)=false:=decide_eq_false c65;clear c65;replace H:=ob H;obtain ⟨Ao,A670,H⟩:=H;replace H:(some (wrap64 ((wrap64 (a2 * Ao)) + a3)))=some r:=H;have A67:=Aside0.mk A670;clear A670;obtain rfl:=os H;have hcz68__:=c6_ A2;have hfz68__:=f_ A2;go_wp2_with (first|((with_reducible refine gate_callee (f:=70) rfl ?_);refine goesL_ (some 141) rfl rfl Try.func70 (by kernel_rfl) rfl #[.int .i64 (wrap64 (A1 - a1))] rfl ml ?_;(with_reducible refine (spec_l01Pow2.calls kj5 (wrap64 (A1 - a1)) Ao _ A67.out).mono ?_);rintro e w' ⟨rfl,⟨nd,rfl⟩⟩;refine ⟨_,rfl,?_⟩));go_ret;exact ⟨er,tb HB⟩
                   ·rw [if_neg c64] at H;have c64b0:(A0 == 16)=false:=beq_eq_false_iff_ne.mpr c64;have c64b1:(A0 != 16)=true:=bne_iff_ne.mpr c64
                    by_cases c69:A0=17
                    ·rw [if_pos c69] at H;have c69b0:(A0 == 17)=true:=beq_iff_eq.mpr c69;have c69b1:(A0 != 17)=false:=bne_eq_false_iff_eq.mpr c69;clear c69;replace H:=ob H;obtain ⟨Ap,A700,H⟩:=H;replace H:(some Ap)=some r:=H;have A70:=Aside0.mk A700;clear A700;obtain rfl:=os H;have hcz71__:=c6_ A2;have hfz71__:=f_ A2;go_wp2_with (first|((with_reducible refine gate_callee (f:=163) rfl ?_);refine goesL_ (some 153) rfl rfl Try.func163 (by kernel_rfl) rfl #[.int .i64 a1,.int .i64 a2,.int .i64 A3,.int .i64 A1] rfl ml ?_;(with_reducible refine (spec_Slice.calls kj5 a1 a2 A3 A1 Ap _ A70.out).mono ?_);rintro e w' ⟨rfl,⟨nd,rfl⟩⟩;refine ⟨_,rfl,?_⟩));go_ret;exact ⟨er,tb HB⟩
                    ·rw [if_neg c69] at H;have c69b0:(A0 == 17)=false:=beq_eq_false_iff_ne.mpr c69;have c69b1:(A0 != 17)=true:=bne_iff_ne.mpr c69
                     by_cases c72:A0=18
                     ·rw [if_pos c72] at H;have c72b0:(A0 == 18)=true:=beq_iff_eq.mpr c72;have c72b1:(A0 != 18)=false:=bne_eq_false_iff_eq.mpr c72;clear c72
                      by_cases c73:a2=1
                      ·rw [if_pos c73] at H;have c73b0:(a2 == 1)=true:=beq_iff_eq.mpr c73;have c73b1:(a2 != 1)=false:=bne_eq_false_iff_eq.mpr c73;clear c73;obtain rfl:=os H;have hcz74__:=c6_ A2;have hfz74__:=f_ A2;go_wp2;go_ret;exact ⟨er,tb HB⟩
                      ·rw [if_neg c73] at H;have c73b0:(a2 == 1)=false:=beq_eq_false_iff_ne.mpr c73;have c73b1:(a2 != 1)=true:=bne_iff_ne.mpr c73;obtain rfl:=os H;have hcz75__:=c6_ A2;have hfz75__:=f_ A2;go_wp2;go_ret;exact ⟨er,tb HB⟩
                     ·rw [if_neg c72] at H;have c72b0:(A0 == 18)=false:=beq_eq_false_iff_ne.mpr c72;have c72b1:(A0 != 18)=true:=bne_iff_ne.mpr c72;obtain rfl:=os H;have hcz76__:=c6_ A2;have hfz76__:=f_ A2;go_wp2;go_ret;exact ⟨er,tb HB⟩
end Go.Proofs.Ythipjoioicmcnaa.G
