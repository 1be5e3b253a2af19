-- texts of this session, merged by a program of it (wip/gen/pack.py)
import Derived.Test.YthipjoioicmcnaaGreatKFnIdleQuant2
import Derived.Test.YthipjoioicmcnaaGreatKFnIdleQuant6
import Derived.Test.YthipjoioicmcnaaGreatKFnIdleQuant10
set_option linter.unusedVariables false
set_option linter.unusedSimpArgs false
set_option maxHeartbeats 80000000
set_option maxRecDepth 100000
namespace Go.Proofs.YthipjoioicmcnaaGreat.G
open Go.RowKit Go.Proofs.YthipjoioicmcnaaGreatW.PrintWords Go.Proofs.YthipjoioicmcnaaGreatW.PrintLast Go.Proofs.YthipjoioicmcnaaGreatW.PrintMore Go.Proofs.YthipjoioicmcnaaGreat.Sh
attribute [local go_sem] max2_int min2_int max_two min_two max_three min_three max_four min_four
def spec_Shr.f (k:Nat) (a0:Int) (a1:Int) (a2:Int):Option (Int):=(spec_l01Two.f k a0 a1 a2).bind fun A1=>(if A1=true then (if a2 ≥ a0 then (some 0) else ((spec_l01Pow2.f k a2).bind fun A0=>(if A0=0 then (none) else (some (wrap64 (Int.tdiv a1 A0)))))) else (some 0))
theorem spec_Shr.calls (k:Nat) (a0:Int) (a1:Int) (a2:Int) (r:Int) (w:World) (h:spec_Shr.f k a0 a1 a2=some r) :
  Calls Tryz.prog 128 #[.int .i64 a0,.int .i64 a1,.int .i64 a2] w fun e w'=>e = .returned (.int .i64 r)∧Drawn0 w w':=by
 have H:((spec_l01Two.f k a0 a1 a2).bind fun A1=>(if A1=true then (if a2 ≥ a0 then (some 0) else ((spec_l01Pow2.f k a2).bind fun A0=>(if A0=0 then (none) else (some (wrap64 (Int.tdiv a1 A0)))))) else (some 0)))=some r:=h;clear h;replace H:=ob H;obtain ⟨A1,A40,H⟩:=H
 try dsimp only at H
 have A4:=Aside0.mk A40;clear A40
 by_cases c5:A1=true
 ·subst c5
  have H1:(if a2 ≥ a0 then (some 0) else ((spec_l01Pow2.f k a2).bind fun A0=>(if A0=0 then (none) else (some (wrap64 (Int.tdiv a1 A0))))))=some r:=by rw [if_pos rfl] at H;exact H
  clear H;have H:=H1;clear H1
  by_cases c6:a2 ≥ a0
  ·rw [if_pos c6] at H;have c6b0:decide (a0≤a2)=true:=decide_eq_true c6;clear c6;obtain rfl:=os H
   go_enter Tryz.func128,Tryz.ntmps128
   go_wp2_with (first|((with_reducible refine gate_callee (f:=134) rfl ?_);refine goesL_ (some 10) rfl rfl Tryz.func134 (by kernel_rfl) rfl #[.int .i64 a0,.int .i64 a1,.int .i64 a2] rfl ml ?_;(with_reducible refine (spec_l01Two.calls k a0 a1 a2 true _ A4.out).mono ?_);rintro e w' ⟨rfl,⟨nd,rfl⟩⟩;refine ⟨_,rfl,?_⟩));go_ret;exact ⟨e1,dn⟩
  ·rw [if_neg c6] at H;have c6b0:decide (a0≤a2)=false:=decide_eq_false c6;clear c6;replace H:=ob H;obtain ⟨A0,A70,H⟩:=H;replace H:(if A0=0 then (none) else (some (wrap64 (Int.tdiv a1 A0))))=some r:=H;have A7:=Aside0.mk A70;clear A70
   by_cases c8:A0=0
   ·rw [if_pos c8] at H;exact absurd H (by simp)
   ·rw [if_neg c8] at H;have c8b0:(A0 == 0)=false:=beq_eq_false_iff_ne.mpr c8;have c8b1:(A0 != 0)=true:=bne_iff_ne.mpr c8;obtain rfl:=os H
    go_enter Tryz.func128,Tryz.ntmps128
    go_wp2_with (first|((with_reducible refine gate_callee (f:=134) rfl ?_);refine goesL_ (some 10) rfl rfl Tryz.func134 (by kernel_rfl) rfl #[.int .i64 a0,.int .i64 a1,.int .i64 a2] rfl ml ?_;(with_reducible refine (spec_l01Two.calls k a0 a1 a2 true _ A4.out).mono ?_);rintro e w' ⟨rfl,⟨nd,rfl⟩⟩;refine ⟨_,rfl,?_⟩)|((with_reducible refine gate_callee (f:=68) rfl ?_);refine goesL_ (some 19) rfl rfl Tryz.func68 (by kernel_rfl) rfl #[.int .i64 a2] rfl ml ?_;(with_reducible refine (spec_l01Pow2.calls k a2 A0 _ A7.out).mono ?_);rintro e w' ⟨rfl,⟨nd,rfl⟩⟩;refine ⟨_,rfl,?_⟩));go_ret;exact ⟨e1,dn⟩
 ·replace c5:=Bool.eq_false_iff.mpr c5;subst c5
  have H1:(some 0)=some r:=by rw [if_neg (show ¬ (false=true) by decide)] at H;exact H
  clear H;have H:=H1;clear H1;obtain rfl:=os H
  go_enter Tryz.func128,Tryz.ntmps128
  go_wp2_with (first|((with_reducible refine gate_callee (f:=134) rfl ?_);refine goesL_ (some 10) rfl rfl Tryz.func134 (by kernel_rfl) rfl #[.int .i64 a0,.int .i64 a1,.int .i64 a2] rfl ml ?_;(with_reducible refine (spec_l01Two.calls k a0 a1 a2 false _ A4.out).mono ?_);rintro e w' ⟨rfl,⟨nd,rfl⟩⟩;refine ⟨_,rfl,?_⟩));go_ret;exact ⟨e1,dn⟩
def spec_Slice.j0:Nat→Int→Int→Int→Bool→Option (Int)
 | 0,_,_,_,_=>none
 | k + 1,x1,x2,x3,x24=>if x24=true then (some 0) else ((spec_l01Pow2.f k x2).bind fun A1=>(if A1=0 then (none) else ((spec_l01Pow2.f k x3).bind fun A0=>(if A0=0 then (none) else (some (Int.tmod (wrap64 (Int.tdiv x1 A1)) A0))))))
def spec_Slice.f (k:Nat) (a0:Int) (a1:Int) (a2:Int) (a3:Int):Option (Int):=(spec_WordOk.f k a0 a1).bind fun A4=>(if A4=true then (if a2 < 0 then (spec_Slice.j0 k a1 a2 a3 true) else ((spec_l01In.f a3 1 (wrap64 (a0 - a2))).bind fun A2=>(spec_Slice.j0 k a1 a2 a3 (!A2)))) else (spec_Slice.j0 k a1 a2 a3 true))
theorem spec_Slice.calls (k:Nat) (a0:Int) (a1:Int) (a2:Int) (a3:Int) (r:Int) (w:World) (h:spec_Slice.f k a0 a1 a2 a3=some r) :
  Calls Tryz.prog 132 #[.int .i64 a0,.int .i64 a1,.int .i64 a2,.int .i64 a3] w fun e w'=>e = .returned (.int .i64 r)∧Drawn0 w w':=by
 have H:((spec_WordOk.f k a0 a1).bind fun A4=>(if A4=true then (if a2 < 0 then (spec_Slice.j0 k a1 a2 a3 true) else ((spec_l01In.f a3 1 (wrap64 (a0 - a2))).bind fun A2=>(spec_Slice.j0 k a1 a2 a3 (!A2)))) else (spec_Slice.j0 k a1 a2 a3 true)))=some r:=h;clear h;have HC5:=Aside0.mk H;clear H
 go_enter Tryz.func132,Tryz.ntmps132
 go_upto_region 1 with (fail)
 repeat (go_quiet (fail);go_upto_region 1 with (fail))
 go_cut [24] (fun v24 wc=>∃ (kq:Nat) (A3:Bool),v24 = .bool A3∧Aside0 (spec_Slice.j0 kq a1 a2 a3 A3=some r)∧Aside0 (kq≤k)∧Drawn0 w wc)
 case first =>
  have H:=HC5.out;clear HC5;replace H:=ob H;obtain ⟨A4,A60,H⟩:=H
  try dsimp only at H
  have A6:=Aside0.mk A60;clear A60
  by_cases c7:A4=true
  ·subst c7
   have H1:(if a2 < 0 then (spec_Slice.j0 k a1 a2 a3 true) else ((spec_l01In.f a3 1 (wrap64 (a0 - a2))).bind fun A2=>(spec_Slice.j0 k a1 a2 a3 (!A2))))=some r:=by rw [if_pos rfl] at H;exact H
   clear H;have H:=H1;clear H1
   by_cases c8:a2 < 0
   ·rw [if_pos c8] at H;have c8b0:decide (a2 < 0)=true:=decide_eq_true c8;clear c8;(first|rw [c8b0]|(simp only [i64_w,i32_w];rw [c8b0])|skip);have H':=Aside0.mk H;clear H;go_wp2_with (first|(go_at_call 96;(try simp only [i64_w,i32_w]);(with_reducible refine (spec_WordOk.calls k a0 a1 true _ A6.out).mono ?_);rintro e w' ⟨rfl,⟨nd,rfl⟩⟩;(try exact dd)))
    repeat (go_quiet (first|(go_at_call 96;(try simp only [i64_w,i32_w]);(with_reducible refine (spec_WordOk.calls k a0 a1 true _ A6.out).mono ?_);rintro e w' ⟨rfl,⟨nd,rfl⟩⟩;(try exact dd)));try go_wp2_with (first|(go_at_call 96;(try simp only [i64_w,i32_w]);(with_reducible refine (spec_WordOk.calls k a0 a1 true _ A6.out).mono ?_);rintro e w' ⟨rfl,⟨nd,rfl⟩⟩;(try exact dd))))
    go_meet
    case rel=>exact ⟨_,(true),(by first|rfl|(simp;done)|(simp [*];done)),H',⟨by first|omega|exact Nat.le_refl _⟩,by repeat (first|exact Drawn0.refl _|apply Drawn0.step)⟩
   ·rw [if_neg c8] at H;have c8b0:decide (a2 < 0)=false:=decide_eq_false c8;clear c8;(first|rw [c8b0]|(simp only [i64_w,i32_w];rw [c8b0])|skip);replace H:=ob H;obtain ⟨A2,A90,H⟩:=H;replace H:(spec_Slice.j0 k a1 a2 a3 (!A2))=some r:=H;have A9:=Aside0.mk A90;clear A90;have H':=Aside0.mk H;clear H;go_wp2_with (first|(go_at_call 96;(try simp only [i64_w,i32_w]);(with_reducible refine (spec_WordOk.calls k a0 a1 true _ A6.out).mono ?_);rintro e w' ⟨rfl,⟨nd,rfl⟩⟩;(try exact dd))|(go_at_call 60;(try simp only [i64_w,i32_w]);(with_reducible refine (spec_l01In.calls a3 1 (wrap64 (a0 - a2)) A2 _ A9.out).mono ?_);rintro e w' ⟨rfl,⟨nd,rfl⟩⟩;(try exact dd)))
    repeat (go_quiet (first|(go_at_call 96;(try simp only [i64_w,i32_w]);(with_reducible refine (spec_WordOk.calls k a0 a1 true _ A6.out).mono ?_);rintro e w' ⟨rfl,⟨nd,rfl⟩⟩;(try exact dd))|(go_at_call 60;(try simp only [i64_w,i32_w]);(with_reducible refine (spec_l01In.calls a3 1 (wrap64 (a0 - a2)) A2 _ A9.out).mono ?_);rintro e w' ⟨rfl,⟨nd,rfl⟩⟩;(try exact dd)));try go_wp2_with (first|(go_at_call 96;(try simp only [i64_w,i32_w]);(with_reducible refine (spec_WordOk.calls k a0 a1 true _ A6.out).mono ?_);rintro e w' ⟨rfl,⟨nd,rfl⟩⟩;(try exact dd))|(go_at_call 60;(try simp only [i64_w,i32_w]);(with_reducible refine (spec_l01In.calls a3 1 (wrap64 (a0 - a2)) A2 _ A9.out).mono ?_);rintro e w' ⟨rfl,⟨nd,rfl⟩⟩;(try exact dd))))
    go_meet
    case rel=>exact ⟨_,(!A2),(by first|rfl|(simp;done)|(simp [*];done)),H',⟨by first|omega|exact Nat.le_refl _⟩,by repeat (first|exact Drawn0.refl _|apply Drawn0.step)⟩
  ·replace c7:=Bool.eq_false_iff.mpr c7;subst c7
   have H1:(spec_Slice.j0 k a1 a2 a3 true)=some r:=by rw [if_neg (show ¬ (false=true) by decide)] at H;exact H
   clear H;have H:=H1;clear H1;have H':=Aside0.mk H;clear H;go_wp2_with (first|(go_at_call 96;(try simp only [i64_w,i32_w]);(with_reducible refine (spec_WordOk.calls k a0 a1 false _ A6.out).mono ?_);rintro e w' ⟨rfl,⟨nd,rfl⟩⟩;(try exact dd)))
   repeat (go_quiet (first|(go_at_call 96;(try simp only [i64_w,i32_w]);(with_reducible refine (spec_WordOk.calls k a0 a1 false _ A6.out).mono ?_);rintro e w' ⟨rfl,⟨nd,rfl⟩⟩;(try exact dd)));try go_wp2_with (first|(go_at_call 96;(try simp only [i64_w,i32_w]);(with_reducible refine (spec_WordOk.calls k a0 a1 false _ A6.out).mono ?_);rintro e w' ⟨rfl,⟨nd,rfl⟩⟩;(try exact dd))))
   go_meet
   case rel=>exact ⟨_,(true),(by first|rfl|(simp;done)|(simp [*];done)),H',⟨by first|omega|exact Nat.le_refl _⟩,by repeat (first|exact Drawn0.refl _|apply Drawn0.step)⟩
 case rest =>
  clear HC5;(try clear c1);(try clear p2);(try clear p6);(try clear c7);(try clear c8);(try clear c8b0);obtain ⟨kq,A3,rfl,HA,HJ4,⟨mc4,rfl⟩⟩:=hcut
  cases kq with
  | zero=>exact absurd HA.out (by simp [spec_Slice.j0])
  | succ kj4 =>
   have H:=HA.out;clear HA;simp only [spec_Slice.j0] at H
   by_cases c10:A3=true
   ·subst c10
    have H1:(some 0)=some r:=by rw [if_pos rfl] at H;exact H
    clear H;have H:=H1;clear H1;obtain rfl:=os H;go_wp2
    repeat (go_quiet (fail);try go_wp2)
    go_ret;exact ⟨e1,dn⟩
   ·replace c10:=Bool.eq_false_iff.mpr c10;subst c10
    have H1:((spec_l01Pow2.f kj4 a2).bind fun A1=>(if A1=0 then (none) else ((spec_l01Pow2.f kj4 a3).bind fun A0=>(if A0=0 then (none) else (some (Int.tmod (wrap64 (Int.tdiv a1 A1)) A0))))))=some r:=by rw [if_neg (show ¬ (false=true) by decide)] at H;exact H
    clear H;have H:=H1;clear H1;replace H:=ob H;obtain ⟨A1,A110,H⟩:=H
    try dsimp only at H
    have A11:=Aside0.mk A110;clear A110
    by_cases c12:A1=0
    ·rw [if_pos c12] at H;exact absurd H (by simp)
    ·rw [if_neg c12] at H;have c12b0:(A1 == 0)=false:=beq_eq_false_iff_ne.mpr c12;have c12b1:(A1 != 0)=true:=bne_iff_ne.mpr c12;replace H:=ob H;obtain ⟨A0,A130,H⟩:=H;replace H:(if A0=0 then (none) else (some (Int.tmod (wrap64 (Int.tdiv a1 A1)) A0)))=some r:=H;have A13:=Aside0.mk A130;clear A130
     by_cases c14:A0=0
     ·rw [if_pos c14] at H;exact absurd H (by simp)
     ·rw [if_neg c14] at H;have c14b0:(A0 == 0)=false:=beq_eq_false_iff_ne.mpr c14;have c14b1:(A0 != 0)=true:=bne_iff_ne.mpr c14;obtain rfl:=os H;go_wp2_with (first|(go_at_call 68;(try simp only [i64_w,i32_w]);(with_reducible refine (spec_l01Pow2.calls kj4 a2 A1 _ A11.out).mono ?_);rintro e w' ⟨rfl,⟨nd,rfl⟩⟩;(try exact dd))|(go_at_call 68;(try simp only [i64_w,i32_w]);(with_reducible refine (spec_l01Pow2.calls kj4 a3 A0 _ A13.out).mono ?_);rintro e w' ⟨rfl,⟨nd,rfl⟩⟩;(try exact dd)))
      repeat (go_quiet (first|(go_at_call 68;(try simp only [i64_w,i32_w]);(with_reducible refine (spec_l01Pow2.calls kj4 a2 A1 _ A11.out).mono ?_);rintro e w' ⟨rfl,⟨nd,rfl⟩⟩;(try exact dd))|(go_at_call 68;(try simp only [i64_w,i32_w]);(with_reducible refine (spec_l01Pow2.calls kj4 a3 A0 _ A13.out).mono ?_);rintro e w' ⟨rfl,⟨nd,rfl⟩⟩;(try exact dd)));try go_wp2_with (first|(go_at_call 68;(try simp only [i64_w,i32_w]);(with_reducible refine (spec_l01Pow2.calls kj4 a2 A1 _ A11.out).mono ?_);rintro e w' ⟨rfl,⟨nd,rfl⟩⟩;(try exact dd))|(go_at_call 68;(try simp only [i64_w,i32_w]);(with_reducible refine (spec_l01Pow2.calls kj4 a3 A0 _ A13.out).mono ?_);rintro e w' ⟨rfl,⟨nd,rfl⟩⟩;(try exact dd))))
      go_ret;exact ⟨e1,dn⟩
def spec_Sub.f (k:Nat) (a0:Int) (a1:Int) (a2:Int):Option (Int):=(spec_l01Two.f k a0 a1 a2).bind fun A2=>(if A2=true then ((spec_l01Pow2.f k a0).bind fun A1=>((spec_l01Pow2.f k a0).bind fun A0=>(if A0=0 then (none) else (some (Int.tmod (wrap64 ((wrap64 (a1 + A1)) - a2)) A0))))) else (some 0))
theorem spec_Sub.calls (k:Nat) (a0:Int) (a1:Int) (a2:Int) (r:Int) (w:World) (h:spec_Sub.f k a0 a1 a2=some r) :
  Calls Tryz.prog 123 #[.int .i64 a0,.int .i64 a1,.int .i64 a2] w fun e w'=>e = .returned (.int .i64 r)∧Drawn0 w w':=by
 have H:((spec_l01Two.f k a0 a1 a2).bind fun A2=>(if A2=true then ((spec_l01Pow2.f k a0).bind fun A1=>((spec_l01Pow2.f k a0).bind fun A0=>(if A0=0 then (none) else (some (Int.tmod (wrap64 ((wrap64 (a1 + A1)) - a2)) A0))))) else (some 0)))=some r:=h;clear h;replace H:=ob H;obtain ⟨A2,A40,H⟩:=H
 try dsimp only at H
 have A4:=Aside0.mk A40;clear A40
 by_cases c5:A2=true
 ·subst c5
  have H1:((spec_l01Pow2.f k a0).bind fun A1=>((spec_l01Pow2.f k a0).bind fun A0=>(if A0=0 then (none) else (some (Int.tmod (wrap64 ((wrap64 (a1 + A1)) - a2)) A0)))))=some r:=by rw [if_pos rfl] at H;exact H
  clear H;have H:=H1;clear H1;replace H:=ob H;obtain ⟨A1,A60,H⟩:=H
  try dsimp only at H
  have A6:=Aside0.mk A60;clear A60;replace H:=ob H;obtain ⟨A0,A70,H⟩:=H;replace H:(if A0=0 then (none) else (some (Int.tmod (wrap64 ((wrap64 (a1 + A1)) - a2)) A0)))=some r:=H;have A7:=Aside0.mk A70;clear A70
  by_cases c8:A0=0
  ·rw [if_pos c8] at H;exact absurd H (by simp)
  ·rw [if_neg c8] at H;have c8b0:(A0 == 0)=false:=beq_eq_false_iff_ne.mpr c8;have c8b1:(A0 != 0)=true:=bne_iff_ne.mpr c8;obtain rfl:=os H
   go_enter Tryz.func123,Tryz.ntmps123
   go_wp2_with (first|((with_reducible refine gate_callee (f:=134) rfl ?_);refine goesL_ (some 10) rfl rfl Tryz.func134 (by kernel_rfl) rfl #[.int .i64 a0,.int .i64 a1,.int .i64 a2] rfl ml ?_;(with_reducible refine (spec_l01Two.calls k a0 a1 a2 true _ A4.out).mono ?_);rintro e w' ⟨rfl,⟨nd,rfl⟩⟩;refine ⟨_,rfl,?_⟩)|((with_reducible refine gate_callee (f:=68) rfl ?_);refine goesL_ (some 14) rfl rfl Tryz.func68 (by kernel_rfl) rfl #[.int .i64 a0] rfl ml ?_;(with_reducible refine (spec_l01Pow2.calls k a0 A1 _ A6.out).mono ?_);rintro e w' ⟨rfl,⟨nd,rfl⟩⟩;refine ⟨_,rfl,?_⟩)|((with_reducible refine gate_callee (f:=68) rfl ?_);refine goesL_ (some 19) rfl rfl Tryz.func68 (by kernel_rfl) rfl #[.int .i64 a0] rfl ml ?_;(with_reducible refine (spec_l01Pow2.calls k a0 A0 _ A7.out).mono ?_);rintro e w' ⟨rfl,⟨nd,rfl⟩⟩;refine ⟨_,rfl,?_⟩));go_ret;exact ⟨e1,dn⟩
 ·replace c5:=Bool.eq_false_iff.mpr c5;subst c5
  have H1:(some 0)=some r:=by rw [if_neg (show ¬ (false=true) by decide)] at H;exact H
  clear H;have H:=H1;clear H1;obtain rfl:=os H
  go_enter Tryz.func123,Tryz.ntmps123
  go_wp2_with (first|((with_reducible refine gate_callee (f:=134) rfl ?_);refine goesL_ (some 10) rfl rfl Tryz.func134 (by kernel_rfl) rfl #[.int .i64 a0,.int .i64 a1,.int .i64 a2] rfl ml ?_;(with_reducible refine (spec_l01Two.calls k a0 a1 a2 false _ A4.out).mono ?_);rintro e w' ⟨rfl,⟨nd,rfl⟩⟩;refine ⟨_,rfl,?_⟩));go_ret;exact ⟨e1,dn⟩
def spec_Apply.j0:Nat→Int→Int→Int→Int→Bool→Int→Int→Int→Int→Int→Int→Option (Int)
 | 0,_,_,_,_,_,_,_,_,_,_,_=>none
 | k + 1,x1,x2,x3,x4,x34,x102000,x102001,x102002,x102003,x102004,x102005=>if x34=true then (some 0) else (if x102000=0 then (some x102002) else (if x102000=2 then ((spec_Flip.f k x102001 x2).bind fun Ad=>(some Ad)) else (if x102000=3 then (some (Go.bits .and .i64 x2 x3)) else (if x102000=4 then (some (Go.bits .or .i64 x2 x3)) else (if x102000=5 then (some (Go.bits .xor .i64 x2 x3)) else (if x102000=6 then ((spec_Add.f k x102001 x2 x3).bind fun Ae=>(some Ae)) else (if x102000=7 then ((spec_Sub.f k x102001 x2 x3).bind fun Af=>(some Af)) else (if x102000=8 then ((spec_Mul.f k x102001 x2 x3).bind fun Ag=>(some Ag)) else (if x102000=9 then ((spec_Div.f k x102001 x2 x3).bind fun Ah=>(some Ah)) else (if x102000=10 then ((spec_Rem.f k x102001 x2 x3).bind fun Ai=>(some Ai)) else (if x102000=11 then ((spec_Shl.f k x102001 x2 x3).bind fun Aj=>(some Aj)) else (if x102000=12 then ((spec_Shr.f k x102001 x2 x3).bind fun Ak=>(some Ak)) else (if x102000=13 then ((spec_l01Bool.f (x2 == x3)).bind fun Al=>(some Al)) else (if x102000=14 then ((spec_Less.f k x1 x2 x3).bind fun Am=>(some Am)) else (if x102000=15 then ((spec_LessSigned.f k x1 x2 x3).bind fun An=>(some An)) else (if x102000=16 then (if x102001 < x1 then (some x3) else ((spec_l01Pow2.f k (wrap64 (x102001 - x1))).bind fun Ao=>(some (wrap64 ((wrap64 (x2 * Ao)) + x3))))) else (if x102000=17 then ((spec_Slice.f k x1 x2 x102002 x102001).bind fun Ap=>(some Ap)) else (if x102000=18 then (if x2=1 then (some x3) else (some x4)) else (some 0)))))))))))))))))))
def spec_Apply.f (k:Nat) (A0:Int) (A2:Int) (A3:Int) (A4:Int) (A5:Int) (A6:Int) (a1:Int) (a2:Int) (a3:Int) (a4:Int):Option (Int):=(spec_l01In.f A2 1 8).bind fun Aq=>(if Aq=true then ((spec_l01In.f a1 1 8).bind fun Ab=>(if Ab=true then ((spec_l01In.f a2 0 255).bind fun Aa=>(if Aa=true then ((spec_l01In.f a3 0 255).bind fun A9=>(if A9=true then ((spec_l01In.f a4 0 255).bind fun A7=>(spec_Apply.j0 k a1 a2 a3 a4 (!A7) A0 A2 A3 A4 A5 A6)) else (spec_Apply.j0 k a1 a2 a3 a4 true A0 A2 A3 A4 A5 A6))) else (spec_Apply.j0 k a1 a2 a3 a4 true A0 A2 A3 A4 A5 A6))) else (spec_Apply.j0 k a1 a2 a3 a4 true A0 A2 A3 A4 A5 A6))) else (spec_Apply.j0 k a1 a2 a3 a4 true A0 A2 A3 A4 A5 A6))
theorem spec_Apply.calls (k:Nat) (A0:Int) (A2:Int) (A3:Int) (A4:Int) (A5:Int) (A6:Int) (a1:Int) (a2:Int) (a3:Int) (a4:Int) (r:Int) (w:World) (h:spec_Apply.f k A0 A2 A3 A4 A5 A6 a1 a2 a3 a4=some r) :
  Calls Tryz.prog 108 #[.agg #[.int .i64 A0,.int .i64 A2,.int .i64 A3,.int .i64 A4,.int .i64 A5,.int .i64 A6],.int .i64 a1,.int .i64 a2,.int .i64 a3,.int .i64 a4] w fun e w'=>e = .returned (.int .i64 r)∧Below w.heap.size w w':=by
 have hu52:=Tryz.underlying52;have HB:=Aside0.mk (Below.refl w.heap.size w);have H:((spec_l01In.f A2 1 8).bind fun Aq=>(if Aq=true then ((spec_l01In.f a1 1 8).bind fun Ab=>(if Ab=true then ((spec_l01In.f a2 0 255).bind fun Aa=>(if Aa=true then ((spec_l01In.f a3 0 255).bind fun A9=>(if A9=true then ((spec_l01In.f a4 0 255).bind fun A7=>(spec_Apply.j0 k a1 a2 a3 a4 (!A7) A0 A2 A3 A4 A5 A6)) else (spec_Apply.j0 k a1 a2 a3 a4 true A0 A2 A3 A4 A5 A6))) else (spec_Apply.j0 k a1 a2 a3 a4 true A0 A2 A3 A4 A5 A6))) else (spec_Apply.j0 k a1 a2 a3 a4 true A0 A2 A3 A4 A5 A6))) else (spec_Apply.j0 k a1 a2 a3 a4 true A0 A2 A3 A4 A5 A6)))=some r:=h;clear h;have HC6:=Aside0.mk H;clear H
 go_enter Tryz.func108,Tryz.ntmps108
 go_upto_region 1 with (first|((with_reducible refine gate_dst (N:=5) rfl ?_);refine bx (N:=5) (cs:=#[.int .i64 A0,.int .i64 A2,.int .i64 A3,.int .i64 A4,.int .i64 A5,.int .i64 A6]) (t:=52) ?_;intro Ar hg w7 hbox hb;have A1:=Aside0.mk (hbox);have GW101:=Aside0.mk ((by rw [hg];exact (below_size (tb HB)):w.heap.size≤Ar));have GE101:=Aside0.mk ((by rw [hg];exact (below_size (tb HB)):w.heap.size≤Ar));replace HB:=Aside0.mk (below_step (tb HB) hb);clear hb hbox hg))
 (try simp only [Act.put,List.setIfInBounds_toArray,List.set_cons_zero,List.set_cons_succ])
 go_cut [34] (fun v34 wc=>∃ (kq:Nat) (Ac:Bool),v34 = .bool Ac∧Aside0 (spec_Apply.j0 kq a1 a2 a3 a4 Ac A0 A2 A3 A4 A5 A6=some r)∧Aside0 (kq≤k)∧Aside0 (wc.heap[Ar]? = some (.cells #[.int .i64 A0,.int .i64 A2,.int .i64 A3,.int .i64 A4,.int .i64 A5,.int .i64 A6] 52 (0,0)))∧Aside0 (Below w.heap.size w wc))
 case first =>
  have H:=HC6.out;clear HC6;replace H:=ob H;obtain ⟨Aq,A80,H⟩:=H
  try dsimp only at H
  have A8:=Aside0.mk A80;clear A80
  by_cases c9:Aq=true
  ·subst c9
   have H1:((spec_l01In.f a1 1 8).bind fun Ab=>(if Ab=true then ((spec_l01In.f a2 0 255).bind fun Aa=>(if Aa=true then ((spec_l01In.f a3 0 255).bind fun A9=>(if A9=true then ((spec_l01In.f a4 0 255).bind fun A7=>(spec_Apply.j0 k a1 a2 a3 a4 (!A7) A0 A2 A3 A4 A5 A6)) else (spec_Apply.j0 k a1 a2 a3 a4 true A0 A2 A3 A4 A5 A6))) else (spec_Apply.j0 k a1 a2 a3 a4 true A0 A2 A3 A4 A5 A6))) else (spec_Apply.j0 k a1 a2 a3 a4 true A0 A2 A3 A4 A5 A6)))=some r:=by rw [if_pos rfl] at H;exact H
   clear H;have H:=H1;clear H1;replace H:=ob H;obtain ⟨Ab,A100,H⟩:=H
   try dsimp only at H
   have A10:=Aside0.mk A100;clear A100
   by_cases c11:Ab=true
   ·subst c11
    have H1:((spec_l01In.f a2 0 255).bind fun Aa=>(if Aa=true then ((spec_l01In.f a3 0 255).bind fun A9=>(if A9=true then ((spec_l01In.f a4 0 255).bind fun A7=>(spec_Apply.j0 k a1 a2 a3 a4 (!A7) A0 A2 A3 A4 A5 A6)) else (spec_Apply.j0 k a1 a2 a3 a4 true A0 A2 A3 A4 A5 A6))) else (spec_Apply.j0 k a1 a2 a3 a4 true A0 A2 A3 A4 A5 A6)))=some r:=by rw [if_pos rfl] at H;exact H
    clear H;have H:=H1;clear H1;replace H:=ob H;obtain ⟨Aa,A120,H⟩:=H
    try dsimp only at H
    have A12:=Aside0.mk A120;clear A120
    by_cases c13:Aa=true
    ·subst c13
     have H1:((spec_l01In.f a3 0 255).bind fun A9=>(if A9=true then ((spec_l01In.f a4 0 255).bind fun A7=>(spec_Apply.j0 k a1 a2 a3 a4 (!A7) A0 A2 A3 A4 A5 A6)) else (spec_Apply.j0 k a1 a2 a3 a4 true A0 A2 A3 A4 A5 A6)))=some r:=by rw [if_pos rfl] at H;exact H
     clear H;have H:=H1;clear H1;replace H:=ob H;obtain ⟨A9,A140,H⟩:=H
     try dsimp only at H
     have A14:=Aside0.mk A140;clear A140
     by_cases c15:A9=true
     ·subst c15
      have H1:((spec_l01In.f a4 0 255).bind fun A7=>(spec_Apply.j0 k a1 a2 a3 a4 (!A7) A0 A2 A3 A4 A5 A6))=some r:=by rw [if_pos rfl] at H;exact H
      clear H;have H:=H1;clear H1;replace H:=ob H;obtain ⟨A7,A160,H⟩:=H;replace H:(spec_Apply.j0 k a1 a2 a3 a4 (!A7) A0 A2 A3 A4 A5 A6)=some r:=H;have A16:=Aside0.mk A160;clear A160;have H':=Aside0.mk H;clear H;have hcz17__:=c6_ A1;have hfz17__:=f_ A1;go_wp2_with (first|((with_reducible refine gate_callee (f:=60) rfl ?_);refine goesL_ (some 13) rfl rfl Tryz.func60 (by kernel_rfl) rfl #[.int .i64 A2,.int .i64 1,.int .i64 8] rfl ml ?_;(with_reducible refine (spec_l01In.calls A2 1 8 true _ A8.out).mono ?_);rintro e w' ⟨rfl,⟨nd,rfl⟩⟩;refine ⟨_,rfl,?_⟩)|(go_at_call 60;(try simp only [i64_w,i32_w]);(with_reducible refine (spec_l01In.calls a1 1 8 true _ A10.out).mono ?_);rintro e w' ⟨rfl,⟨nd,rfl⟩⟩)|(go_at_call 60;(try simp only [i64_w,i32_w]);(with_reducible refine (spec_l01In.calls a2 0 255 true _ A12.out).mono ?_);rintro e w' ⟨rfl,⟨nd,rfl⟩⟩)|(go_at_call 60;(try simp only [i64_w,i32_w]);(with_reducible refine (spec_l01In.calls a3 0 255 true _ A14.out).mono ?_);rintro e w' ⟨rfl,⟨nd,rfl⟩⟩)|(go_at_call 60;(try simp only [i64_w,i32_w]);(with_reducible refine (spec_l01In.calls a4 0 255 A7 _ A16.out).mono ?_);rintro e w' ⟨rfl,⟨nd,rfl⟩⟩));go_meet
      case rel=>exact ⟨_,(!A7),(by first|rfl|(simp;done)|(simp [*];done)),H',⟨by first|omega|exact Nat.le_refl _⟩,⟨dr A1⟩,⟨by exact tb HB⟩⟩
     ·replace c15:=Bool.eq_false_iff.mpr c15;subst c15
      have H1:(spec_Apply.j0 k a1 a2 a3 a4 true A0 A2 A3 A4 A5 A6)=some r:=by rw [if_neg (show ¬ (false=true) by decide)] at H;exact H
      clear H;have H:=H1;clear H1;have H':=Aside0.mk H;clear H;have hcz18__:=c6_ A1;have hfz18__:=f_ A1;go_wp2_with (first|((with_reducible refine gate_callee (f:=60) rfl ?_);refine goesL_ (some 13) rfl rfl Tryz.func60 (by kernel_rfl) rfl #[.int .i64 A2,.int .i64 1,.int .i64 8] rfl ml ?_;(with_reducible refine (spec_l01In.calls A2 1 8 true _ A8.out).mono ?_);rintro e w' ⟨rfl,⟨nd,rfl⟩⟩;refine ⟨_,rfl,?_⟩)|(go_at_call 60;(try simp only [i64_w,i32_w]);(with_reducible refine (spec_l01In.calls a1 1 8 true _ A10.out).mono ?_);rintro e w' ⟨rfl,⟨nd,rfl⟩⟩)|(go_at_call 60;(try simp only [i64_w,i32_w]);(with_reducible refine (spec_l01In.calls a2 0 255 true _ A12.out).mono ?_);rintro e w' ⟨rfl,⟨nd,rfl⟩⟩)|(go_at_call 60;(try simp only [i64_w,i32_w]);(with_reducible refine (spec_l01In.calls a3 0 255 false _ A14.out).mono ?_);rintro e w' ⟨rfl,⟨nd,rfl⟩⟩));go_meet
      case rel=>exact ⟨_,(true),(by first|rfl|(simp;done)|(simp [*];done)),H',⟨by first|omega|exact Nat.le_refl _⟩,⟨dr A1⟩,⟨by exact tb HB⟩⟩
    ·replace c13:=Bool.eq_false_iff.mpr c13;subst c13
     have H1:(spec_Apply.j0 k a1 a2 a3 a4 true A0 A2 A3 A4 A5 A6)=some r:=by rw [if_neg (show ¬ (false=true) by decide)] at H;exact H
     clear H;have H:=H1;clear H1;have H':=Aside0.mk H;clear H;have hcz19__:=c6_ A1;have hfz19__:=f_ A1;go_wp2_with (first|((with_reducible refine gate_callee (f:=60) rfl ?_);refine goesL_ (some 13) rfl rfl Tryz.func60 (by kernel_rfl) rfl #[.int .i64 A2,.int .i64 1,.int .i64 8] rfl ml ?_;(with_reducible refine (spec_l01In.calls A2 1 8 true _ A8.out).mono ?_);rintro e w' ⟨rfl,⟨nd,rfl⟩⟩;refine ⟨_,rfl,?_⟩)|(go_at_call 60;(try simp only [i64_w,i32_w]);(with_reducible refine (spec_l01In.calls a1 1 8 true _ A10.out).mono ?_);rintro e w' ⟨rfl,⟨nd,rfl⟩⟩)|(go_at_call 60;(try simp only [i64_w,i32_w]);(with_reducible refine (spec_l01In.calls a2 0 255 false _ A12.out).mono ?_);rintro e w' ⟨rfl,⟨nd,rfl⟩⟩));go_meet
     case rel=>exact ⟨_,(true),(by first|rfl|(simp;done)|(simp [*];done)),H',⟨by first|omega|exact Nat.le_refl _⟩,⟨dr A1⟩,⟨by exact tb HB⟩⟩
   ·replace c11:=Bool.eq_false_iff.mpr c11;subst c11
    have H1:(spec_Apply.j0 k a1 a2 a3 a4 true A0 A2 A3 A4 A5 A6)=some r:=by rw [if_neg (show ¬ (false=true) by decide)] at H;exact H
    clear H;have H:=H1;clear H1;have H':=Aside0.mk H;clear H;have hcz20__:=c6_ A1;have hfz20__:=f_ A1;go_wp2_with (first|((with_reducible refine gate_callee (f:=60) rfl ?_);refine goesL_ (some 13) rfl rfl Tryz.func60 (by kernel_rfl) rfl #[.int .i64 A2,.int .i64 1,.int .i64 8] rfl ml ?_;(with_reducible refine (spec_l01In.calls A2 1 8 true _ A8.out).mono ?_);rintro e w' ⟨rfl,⟨nd,rfl⟩⟩;refine ⟨_,rfl,?_⟩)|(go_at_call 60;(try simp only [i64_w,i32_w]);(with_reducible refine (spec_l01In.calls a1 1 8 false _ A10.out).mono ?_);rintro e w' ⟨rfl,⟨nd,rfl⟩⟩));go_meet
    case rel=>exact ⟨_,(true),(by first|rfl|(simp;done)|(simp [*];done)),H',⟨by first|omega|exact Nat.le_refl _⟩,⟨dr A1⟩,⟨by exact tb HB⟩⟩
  ·replace c9:=Bool.eq_false_iff.mpr c9;subst c9
   have H1:(spec_Apply.j0 k a1 a2 a3 a4 true A0 A2 A3 A4 A5 A6)=some r:=by rw [if_neg (show ¬ (false=true) by decide)] at H;exact H
   clear H;have H:=H1;clear H1;have H':=Aside0.mk H;clear H;have hcz21__:=c6_ A1;have hfz21__:=f_ A1;go_wp2_with (first|((with_reducible refine gate_callee (f:=60) rfl ?_);refine goesL_ (some 13) rfl rfl Tryz.func60 (by kernel_rfl) rfl #[.int .i64 A2,.int .i64 1,.int .i64 8] rfl ml ?_;(with_reducible refine (spec_l01In.calls A2 1 8 false _ A8.out).mono ?_);rintro e w' ⟨rfl,⟨nd,rfl⟩⟩;refine ⟨_,rfl,?_⟩));go_meet
   case rel=>exact ⟨_,(true),(by first|rfl|(simp;done)|(simp [*];done)),H',⟨by first|omega|exact Nat.le_refl _⟩,⟨dr A1⟩,⟨by exact tb HB⟩⟩
 case rest =>
  clear HC6;(try clear c1);(try clear p2);(try clear c6);(try clear c9);(try clear c10);(try clear c11);(try clear c13);(try clear c15);(try clear hcz17__);(try clear hcz18__);(try clear hcz19__);(try clear hcz20__);(try clear hcz21__);(try clear hfz17__);(try clear hfz18__);(try clear hfz19__);(try clear hfz20__);(try clear hfz21__);obtain ⟨kq,Ac,rfl,HA,HJ5,A1,HB⟩:=hcut
  cases kq with
  | zero=>exact absurd HA.out (by simp [spec_Apply.j0])
  | succ kj5 =>
   have H:=HA.out;clear HA;simp only [spec_Apply.j0] at H
   by_cases c22:Ac=true
   ·subst c22
    have H1:(some 0)=some r:=by rw [if_pos rfl] at H;exact H
    clear H;have H:=H1;clear H1;obtain rfl:=os H;go_wp2;go_ret;exact ⟨er,tb HB⟩
   ·replace c22:=Bool.eq_false_iff.mpr c22;subst c22
    have H1:(if A0=0 then (some A3) else (if A0=2 then ((spec_Flip.f kj5 A2 a2).bind fun Ad=>(some Ad)) else (if A0=3 then (some (Go.bits .and .i64 a2 a3)) else (if A0=4 then (some (Go.bits .or .i64 a2 a3)) else (if A0=5 then (some (Go.bits .xor .i64 a2 a3)) else (if A0=6 then ((spec_Add.f kj5 A2 a2 a3).bind fun Ae=>(some Ae)) else (if A0=7 then ((spec_Sub.f kj5 A2 a2 a3).bind fun Af=>(some Af)) else (if A0=8 then ((spec_Mul.f kj5 A2 a2 a3).bind fun Ag=>(some Ag)) else (if A0=9 then ((spec_Div.f kj5 A2 a2 a3).bind fun Ah=>(some Ah)) else (if A0=10 then ((spec_Rem.f kj5 A2 a2 a3).bind fun Ai=>(some Ai)) else (if A0=11 then ((spec_Shl.f kj5 A2 a2 a3).bind fun Aj=>(some Aj)) else (if A0=12 then ((spec_Shr.f kj5 A2 a2 a3).bind fun Ak=>(some Ak)) else (if A0=13 then ((spec_l01Bool.f (a2 == a3)).bind fun Al=>(some Al)) else (if A0=14 then ((spec_Less.f kj5 a1 a2 a3).bind fun Am=>(some Am)) else (if A0=15 then ((spec_LessSigned.f kj5 a1 a2 a3).bind fun An=>(some An)) else (if A0=16 then (if A2 < a1 then (some a3) else ((spec_l01Pow2.f kj5 (wrap64 (A2 - a1))).bind fun Ao=>(some (wrap64 ((wrap64 (a2 * Ao)) + a3))))) else (if A0=17 then ((spec_Slice.f kj5 a1 a2 A3 A2).bind fun Ap=>(some Ap)) else (if A0=18 then (if a2=1 then (some a3) else (some a4)) else (some 0)))))))))))))))))))=some r:=by rw [if_neg (show ¬ (false=true) by decide)] at H;exact H
    clear H;have H:=H1;clear H1
    by_cases c23:A0=0
    ·rw [if_pos c23] at H;have c23b0:(A0 == 0)=true:=beq_iff_eq.mpr c23;have c23b1:(A0 != 0)=false:=bne_eq_false_iff_eq.mpr c23;clear c23;obtain rfl:=os H;have hcz24__:=c6_ A1;have hfz24__:=f_ A1;go_wp2;go_ret;exact ⟨er,tb HB⟩
    ·rw [if_neg c23] at H;have c23b0:(A0 == 0)=false:=beq_eq_false_iff_ne.mpr c23;have c23b1:(A0 != 0)=true:=bne_iff_ne.mpr c23
     by_cases c25:A0=2
     ·rw [if_pos c25] at H;have c25b0:(A0 == 2)=true:=beq_iff_eq.mpr c25;have c25b1:(A0 != 2)=false:=bne_eq_false_iff_eq.mpr c25;clear c25;replace H:=ob H;obtain ⟨Ad,A260,H⟩:=H;replace H:(some Ad)=some r:=H;have A26:=Aside0.mk A260;clear A260;obtain rfl:=os H;have hcz27__:=c6_ A1;have hfz27__:=f_ A1;go_wp2_with (first|((with_reducible refine gate_callee (f:=121) rfl ?_);refine goesL_ (some 46) rfl rfl Tryz.func121 (by kernel_rfl) rfl #[.int .i64 A2,.int .i64 a2] rfl ml ?_;(with_reducible refine (spec_Flip.calls kj5 A2 a2 Ad _ A26.out).mono ?_);rintro e w' ⟨rfl,⟨nd,rfl⟩⟩;refine ⟨_,rfl,?_⟩));go_ret;exact ⟨er,tb HB⟩
     ·rw [if_neg c25] at H;have c25b0:(A0 == 2)=false:=beq_eq_false_iff_ne.mpr c25;have c25b1:(A0 != 2)=true:=bne_iff_ne.mpr c25
      by_cases c28:A0=3
      ·rw [if_pos c28] at H;have c28b0:(A0 == 3)=true:=beq_iff_eq.mpr c28;have c28b1:(A0 != 3)=false:=bne_eq_false_iff_eq.mpr c28;clear c28;obtain rfl:=os H;have hcz29__:=c6_ A1;have hfz29__:=f_ A1;go_wp2;go_ret;exact ⟨er,tb HB⟩
      ·rw [if_neg c28] at H;have c28b0:(A0 == 3)=false:=beq_eq_false_iff_ne.mpr c28;have c28b1:(A0 != 3)=true:=bne_iff_ne.mpr c28
       by_cases c30:A0=4
       ·rw [if_pos c30] at H;have c30b0:(A0 == 4)=true:=beq_iff_eq.mpr c30;have c30b1:(A0 != 4)=false:=bne_eq_false_iff_eq.mpr c30;clear c30;obtain rfl:=os H;have hcz31__:=c6_ A1;have hfz31__:=f_ A1;go_wp2;go_ret;exact ⟨er,tb HB⟩
       ·rw [if_neg c30] at H;have c30b0:(A0 == 4)=false:=beq_eq_false_iff_ne.mpr c30;have c30b1:(A0 != 4)=true:=bne_iff_ne.mpr c30
        by_cases c32:A0=5
        ·rw [if_pos c32] at H;have c32b0:(A0 == 5)=true:=beq_iff_eq.mpr c32;have c32b1:(A0 != 5)=false:=bne_eq_false_iff_eq.mpr c32;clear c32;obtain rfl:=os H;have hcz33__:=c6_ A1;have hfz33__:=f_ A1;go_wp2;go_ret;exact ⟨er,tb HB⟩
        ·rw [if_neg c32] at H;have c32b0:(A0 == 5)=false:=beq_eq_false_iff_ne.mpr c32;have c32b1:(A0 != 5)=true:=bne_iff_ne.mpr c32
         by_cases c34:A0=6
         ·rw [if_pos c34] at H;have c34b0:(A0 == 6)=true:=beq_iff_eq.mpr c34;have c34b1:(A0 != 6)=false:=bne_eq_false_iff_eq.mpr c34;clear c34;replace H:=ob H;obtain ⟨Ae,A350,H⟩:=H;replace H:(some Ae)=some r:=H;have A35:=Aside0.mk A350;clear A350;obtain rfl:=os H;have hcz36__:=c6_ A1;have hfz36__:=f_ A1;go_wp2_with (first|((with_reducible refine gate_callee (f:=122) rfl ?_);refine goesL_ (some 68) rfl rfl Tryz.func122 (by kernel_rfl) rfl #[.int .i64 A2,.int .i64 a2,.int .i64 a3] rfl ml ?_;(with_reducible refine (spec_Add.calls kj5 A2 a2 a3 Ae _ A35.out).mono ?_);rintro e w' ⟨rfl,⟨nd,rfl⟩⟩;refine ⟨_,rfl,?_⟩));go_ret;exact ⟨er,tb HB⟩
         ·rw [if_neg c34] at H;have c34b0:(A0 == 6)=false:=beq_eq_false_iff_ne.mpr c34;have c34b1:(A0 != 6)=true:=bne_iff_ne.mpr c34
          by_cases c37:A0=7
          ·rw [if_pos c37] at H;have c37b0:(A0 == 7)=true:=beq_iff_eq.mpr c37;have c37b1:(A0 != 7)=false:=bne_eq_false_iff_eq.mpr c37;clear c37;replace H:=ob H;obtain ⟨Af,A380,H⟩:=H;replace H:(some Af)=some r:=H;have A38:=Aside0.mk A380;clear A380;obtain rfl:=os H;have hcz39__:=c6_ A1;have hfz39__:=f_ A1;go_wp2_with (first|((with_reducible refine gate_callee (f:=123) rfl ?_);refine goesL_ (some 75) rfl rfl Tryz.func123 (by kernel_rfl) rfl #[.int .i64 A2,.int .i64 a2,.int .i64 a3] rfl ml ?_;(with_reducible refine (spec_Sub.calls kj5 A2 a2 a3 Af _ A38.out).mono ?_);rintro e w' ⟨rfl,⟨nd,rfl⟩⟩;refine ⟨_,rfl,?_⟩));go_ret;exact ⟨er,tb HB⟩
          ·rw [if_neg c37] at H;have c37b0:(A0 == 7)=false:=beq_eq_false_iff_ne.mpr c37;have c37b1:(A0 != 7)=true:=bne_iff_ne.mpr c37
           by_cases c40:A0=8
           ·rw [if_pos c40] at H;have c40b0:(A0 == 8)=true:=beq_iff_eq.mpr c40;have c40b1:(A0 != 8)=false:=bne_eq_false_iff_eq.mpr c40;clear c40;replace H:=ob H;obtain ⟨Ag,A410,H⟩:=H;replace H:(some Ag)=some r:=H;have A41:=Aside0.mk A410;clear A410;obtain rfl:=os H;have hcz42__:=c6_ A1;have hfz42__:=f_ A1;go_wp2_with (first|((with_reducible refine gate_callee (f:=124) rfl ?_);refine goesL_ (some 82) rfl rfl Tryz.func124 (by kernel_rfl) rfl #[.int .i64 A2,.int .i64 a2,.int .i64 a3] rfl ml ?_;(with_reducible refine (spec_Mul.calls kj5 A2 a2 a3 Ag _ A41.out).mono ?_);rintro e w' ⟨rfl,⟨nd,rfl⟩⟩;refine ⟨_,rfl,?_⟩));go_ret;exact ⟨er,tb HB⟩
           ·rw [if_neg c40] at H;have c40b0:(A0 == 8)=false:=beq_eq_false_iff_ne.mpr c40;have c40b1:(A0 != 8)=true:=bne_iff_ne.mpr c40
            by_cases c43:A0=9
            ·rw [if_pos c43] at H;have c43b0:(A0 == 9)=true:=beq_iff_eq.mpr c43;have c43b1:(A0 != 9)=false:=bne_eq_false_iff_eq.mpr c43;clear c43;replace H:=ob H;obtain ⟨Ah,A440,H⟩:=H;replace H:(some Ah)=some r:=H;have A44:=Aside0.mk A440;clear A440;obtain rfl:=os H;have hcz45__:=c6_ A1;have hfz45__:=f_ A1;go_wp2_with (first|((with_reducible refine gate_callee (f:=125) rfl ?_);refine goesL_ (some 89) rfl rfl Tryz.func125 (by kernel_rfl) rfl #[.int .i64 A2,.int .i64 a2,.int .i64 a3] rfl ml ?_;(with_reducible refine (spec_Div.calls kj5 A2 a2 a3 Ah _ A44.out).mono ?_);rintro e w' ⟨rfl,⟨nd,rfl⟩⟩;refine ⟨_,rfl,?_⟩));go_ret;exact ⟨er,tb HB⟩
            ·rw [if_neg c43] at H;have c43b0:(A0 == 9)=false:=beq_eq_false_iff_ne.mpr c43;have c43b1:(A0 != 9)=true:=bne_iff_ne.mpr c43
             by_cases c46:A0=10
             ·rw [if_pos c46] at H;have c46b0:(A0 == 10)=true:=beq_iff_eq.mpr c46;have c46b1:(A0 != 10)=false:=bne_eq_false_iff_eq.mpr c46;clear c46;replace H:=ob H;obtain ⟨Ai,A470,H⟩:=H;replace H:(some Ai)=some r:=H;have A47:=Aside0.mk A470;clear A470;obtain rfl:=os H;have hcz48__:=c6_ A1;have hfz48__:=f_ A1;go_wp2_with (first|((with_reducible refine gate_callee (f:=126) rfl ?_);refine goesL_ (some 96) rfl rfl Tryz.func126 (by kernel_rfl) rfl #[.int .i64 A2,.int .i64 a2,.int .i64 a3] rfl ml ?_;(with_reducible refine (spec_Rem.calls kj5 A2 a2 a3 Ai _ A47.out).mono ?_);rintro e w' ⟨rfl,⟨nd,rfl⟩⟩;refine ⟨_,rfl,?_⟩));go_ret;exact ⟨er,tb HB⟩
             ·rw [if_neg c46] at H;have c46b0:(A0 == 10)=false:=beq_eq_false_iff_ne.mpr c46;have c46b1:(A0 != 10)=true:=bne_iff_ne.mpr c46
              by_cases c49:A0=11
              ·rw [if_pos c49] at H;have c49b0:(A0 == 11)=true:=beq_iff_eq.mpr c49;have c49b1:(A0 != 11)=false:=bne_eq_false_iff_eq.mpr c49;clear c49;replace H:=ob H;obtain ⟨Aj,A500,H⟩:=H;replace H:(some Aj)=some r:=H;have A50:=Aside0.mk A500;clear A500;obtain rfl:=os H;have hcz51__:=c6_ A1;have hfz51__:=f_ A1;go_wp2_with (first|((with_reducible refine gate_callee (f:=127) rfl ?_);refine goesL_ (some 103) rfl rfl Tryz.func127 (by kernel_rfl) rfl #[.int .i64 A2,.int .i64 a2,.int .i64 a3] rfl ml ?_;(with_reducible refine (spec_Shl.calls kj5 A2 a2 a3 Aj _ A50.out).mono ?_);rintro e w' ⟨rfl,⟨nd,rfl⟩⟩;refine ⟨_,rfl,?_⟩));go_ret;exact ⟨er,tb HB⟩
              ·rw [if_neg c49] at H;have c49b0:(A0 == 11)=false:=beq_eq_false_iff_ne.mpr c49;have c49b1:(A0 != 11)=true:=bne_iff_ne.mpr c49
               by_cases c52:A0=12
               ·rw [if_pos c52] at H;have c52b0:(A0 == 12)=true:=beq_iff_eq.mpr c52;have c52b1:(A0 != 12)=false:=bne_eq_false_iff_eq.mpr c52;clear c52;replace H:=ob H;obtain ⟨Ak,A530,H⟩:=H;replace H:(some Ak)=some r:=H;have A53:=Aside0.mk A530;clear A530;obtain rfl:=os H;have hcz54__:=c6_ A1;have hfz54__:=f_ A1;go_wp2_with (first|((with_reducible refine gate_callee (f:=128) rfl ?_);refine goesL_ (some 110) rfl rfl Tryz.func128 (by kernel_rfl) rfl #[.int .i64 A2,.int .i64 a2,.int .i64 a3] rfl ml ?_;(with_reducible refine (spec_Shr.calls kj5 A2 a2 a3 Ak _ A53.out).mono ?_);rintro e w' ⟨rfl,⟨nd,rfl⟩⟩;refine ⟨_,rfl,?_⟩));go_ret;exact ⟨er,tb HB⟩
               ·rw [if_neg c52] at H;have c52b0:(A0 == 12)=false:=beq_eq_false_iff_ne.mpr c52;have c52b1:(A0 != 12)=true:=bne_iff_ne.mpr c52
                by_cases c55:A0=13
                ·rw [if_pos c55] at H;have c55b0:(A0 == 13)=true:=beq_iff_eq.mpr c55;have c55b1:(A0 != 13)=false:=bne_eq_false_iff_eq.mpr c55;clear c55;replace H:=ob H;obtain ⟨Al,A560,H⟩:=H;replace H:(some Al)=some r:=H;have A56:=Aside0.mk A560;clear A560;obtain rfl:=os H;have hcz57__:=c6_ A1;have hfz57__:=f_ A1;go_wp2_with (first|((with_reducible refine gate_callee (f:=129) rfl ?_);refine goesL_ (some 116) rfl rfl Tryz.func129 (by kernel_rfl) rfl #[.bool (a2 == a3)] rfl ml ?_;(with_reducible refine (spec_l01Bool.calls (a2 == a3) Al _ A56.out).mono ?_);rintro e w' ⟨rfl,⟨nd,rfl⟩⟩;refine ⟨_,rfl,?_⟩));go_ret;exact ⟨er,tb HB⟩
                ·rw [if_neg c55] at H;have c55b0:(A0 == 13)=false:=beq_eq_false_iff_ne.mpr c55;have c55b1:(A0 != 13)=true:=bne_iff_ne.mpr c55
                 by_cases c58:A0=14
                 ·rw [if_pos c58] at H;have c58b0:(A0 == 14)=true:=beq_iff_eq.mpr c58;have c58b1:(A0 != 14)=false:=bne_eq_false_iff_eq.mpr c58;clear c58;replace H:=ob H;obtain ⟨Am,A590,H⟩:=H;replace H:(some Am)=some r:=H;have A59:=Aside0.mk A590;clear A590;obtain rfl:=os H;have hcz60__:=c6_ A1;have hfz60__:=f_ A1;go_wp2_with (first|((with_reducible refine gate_callee (f:=130) rfl ?_);refine goesL_ (some 122) rfl rfl Tryz.func130 (by kernel_rfl) rfl #[.int .i64 a1,.int .i64 a2,.int .i64 a3] rfl ml ?_;(with_reducible refine (spec_Less.calls kj5 a1 a2 a3 Am _ A59.out).mono ?_);rintro e w' ⟨rfl,⟨nd,rfl⟩⟩;refine ⟨_,rfl,?_⟩));go_ret;exact ⟨er,tb HB⟩
                 ·rw [if_neg c58] at H;have c58b0:(A0 == 14)=false:=beq_eq_false_iff_ne.mpr c58;have c58b1:(A0 != 14)=true:=bne_iff_ne.mpr c58
                  by_cases c61:A0=15
                  ·rw [if_pos c61] at H;have c61b0:(A0 == 15)=true:=beq_iff_eq.mpr c61;have c61b1:(A0 != 15)=false:=bne_eq_false_iff_eq.mpr c61;clear c61;replace H:=ob H;obtain ⟨An,A620,H⟩:=H;replace H:(some An)=some r:=H;have A62:=Aside0.mk A620;clear A620;obtain rfl:=os H;have hcz63__:=c6_ A1;have hfz63__:=f_ A1;go_wp2_with (first|((with_reducible refine gate_callee (f:=131) rfl ?_);refine goesL_ (some 128) rfl rfl Tryz.func131 (by kernel_rfl) rfl #[.int .i64 a1,.int .i64 a2,.int .i64 a3] rfl ml ?_;(with_reducible refine (spec_LessSigned.calls kj5 a1 a2 a3 An _ A62.out).mono ?_);rintro e w' ⟨rfl,⟨nd,rfl⟩⟩;refine ⟨_,rfl,?_⟩));go_ret;exact ⟨er,tb HB⟩
                  ·rw [if_neg c61] at H;have c61b0:(A0 == 15)=false:=beq_eq_false_iff_ne.mpr c61;have c61b1:(A0 != 15)=true:=bne_iff_ne.mpr c61
                   by_cases c64:A0=16
                   ·rw [if_pos c64] at H;have c64b0:(A0 == 16)=true:=beq_iff_eq.mpr c64;have c64b1:(A0 != 16)=false:=bne_eq_false_iff_eq.mpr c64;clear c64
                    by_cases c65:A2 < a1
                    ·rw [if_pos c65] at H;have c65b0:decide (A2 < a1)=true:=decide_eq_true c65;clear c65;obtain rfl:=os H;have hcz66__:=c6_ A1;have hfz66__:=f_ A1;go_wp2;go_ret;exact ⟨er,tb HB⟩
                    ·rw [if_neg c65] at H;have c65b0:decide (A2 < a1)=false:=decide_eq_false c65;clear c65;replace H:=ob H;obtain ⟨Ao,A670,H⟩:=H;replace H:(some (wrap64 ((wrap64 (a2 * Ao)) + a3)))=some r:=H;have A67:=Aside0.mk A670;clear A670;obtain rfl:=os H;have hcz68__:=c6_ A1;have hfz68__:=f_ A1;go_wp2_with (first|((with_reducible refine gate_callee (f:=68) rfl ?_);refine goesL_ (some 141) rfl rfl Tryz.func68 (by kernel_rfl) rfl #[.int .i64 (wrap64 (A2 - a1))] rfl ml ?_;(with_reducible refine (spec_l01Pow2.calls kj5 (wrap64 (A2 - a1)) Ao _ A67.out).mono ?_);rintro e w' ⟨rfl,⟨nd,rfl⟩⟩;refine ⟨_,rfl,?_⟩));go_ret;exact ⟨er,tb HB⟩
                   ·rw [if_neg c64] at H;have c64b0:(A0 == 16)=false:=beq_eq_false_iff_ne.mpr c64;have c64b1:(A0 != 16)=true:=bne_iff_ne.mpr c64
                    by_cases c69:A0=17
                    ·rw [if_pos c69] at H;have c69b0:(A0 == 17)=true:=beq_iff_eq.mpr c69;have c69b1:(A0 != 17)=false:=bne_eq_false_iff_eq.mpr c69;clear c69;replace H:=ob H;obtain ⟨Ap,A700,H⟩:=H;replace H:(some Ap)=some r:=H;have A70:=Aside0.mk A700;clear A700;obtain rfl:=os H;have hcz71__:=c6_ A1;have hfz71__:=f_ A1;go_wp2_with (first|((with_reducible refine gate_callee (f:=132) rfl ?_);refine goesL_ (some 153) rfl rfl Tryz.func132 (by kernel_rfl) rfl #[.int .i64 a1,.int .i64 a2,.int .i64 A3,.int .i64 A2] rfl ml ?_;(with_reducible refine (spec_Slice.calls kj5 a1 a2 A3 A2 Ap _ A70.out).mono ?_);rintro e w' ⟨rfl,⟨nd,rfl⟩⟩;refine ⟨_,rfl,?_⟩));go_ret;exact ⟨er,tb HB⟩
                    ·rw [if_neg c69] at H;have c69b0:(A0 == 17)=false:=beq_eq_false_iff_ne.mpr c69;have c69b1:(A0 != 17)=true:=bne_iff_ne.mpr c69
                     by_cases c72:A0=18
                     ·rw [if_pos c72] at H;have c72b0:(A0 == 18)=true:=beq_iff_eq.mpr c72;have c72b1:(A0 != 18)=false:=bne_eq_false_iff_eq.mpr c72;clear c72
                      by_cases c73:a2=1
                      ·rw [if_pos c73] at H;have c73b0:(a2 == 1)=true:=beq_iff_eq.mpr c73;have c73b1:(a2 != 1)=false:=bne_eq_false_iff_eq.mpr c73;clear c73;obtain rfl:=os H;have hcz74__:=c6_ A1;have hfz74__:=f_ A1;go_wp2;go_ret;exact ⟨er,tb HB⟩
                      ·rw [if_neg c73] at H;have c73b0:(a2 == 1)=false:=beq_eq_false_iff_ne.mpr c73;have c73b1:(a2 != 1)=true:=bne_iff_ne.mpr c73;obtain rfl:=os H;have hcz75__:=c6_ A1;have hfz75__:=f_ A1;go_wp2;go_ret;exact ⟨er,tb HB⟩
                     ·rw [if_neg c72] at H;have c72b0:(A0 == 18)=false:=beq_eq_false_iff_ne.mpr c72;have c72b1:(A0 != 18)=true:=bne_iff_ne.mpr c72;obtain rfl:=os H;have hcz76__:=c6_ A1;have hfz76__:=f_ A1;go_wp2;go_ret;exact ⟨er,tb HB⟩
section
variable {W:World} {go ck b n:Nat} {kn:List Int} {ok:Nat→Prop}
theorem on_get (h:Kd.R (Kd.int .i64) 3 W b ok (.slice (some ⟨go,0,none⟩) n ck) kn) (i:Int) (h0:0≤i) (h1:i < n):W.cell? ⟨go,i.toNat,none⟩=some (.int .i64 (rd kn i))∧W.frozen? ⟨go,i.toNat,none⟩=false:=Kd.R_celln (0:Int) h i h0 h1
theorem on_put (h:Kd.R (Kd.int .i64) 3 W b ok (.slice (some ⟨go,0,none⟩) n ck) kn) (i:Int) (v:Int):Kd.R (Kd.int .i64) 3 (W.setCell ⟨go,i.toNat,none⟩ (.int .i64 v)) b ok (.slice (some ⟨go,0,none⟩) n ck) (kn.set i.toNat v)∧W.grownBy (W.setCell ⟨go,i.toNat,none⟩ (.int .i64 v)) (some go):=Kd.R_putg h i v
end
def onL:Nat→List S52→List Int→List Int→Int→Int→List Int→Option (Int × List Int)
 | 0,_,_,_,_,_,_=>none
 | k + 1,l0,l2,ps,j,wd,zs=>if j < (ps.length:Int) then (if 0≤j∧j < (zs.length:Int) then (if 0≤rd ps j∧rd ps j < (l2.length:Int) then (if j=0 then (if rd ps j < (l0.length:Int) then onL k l0 l2 ps (wrap64 (j + 1)) (rd_T52 l0 (rd ps j)).f1 (zs.set j.toNat (rd l2 (rd ps j))) else none) else onL k l0 l2 ps (wrap64 (j + 1)) wd (zs.set j.toNat (rd l2 (rd ps j)))) else none) else none) else some (wd,zs)
def spec_l04One.f (k:Nat) (l0:List S52) (l1 l2:List Int) (i:Int):Option Int:=if 0≤i∧i < (l0.length:Int) then (if (rd_T52 l0 i).f0=1 then (if 0≤(rd_T52 l0 i).f2∧(rd_T52 l0 i).f2 < (l1.length:Int) then some (rd l1 (rd_T52 l0 i).f2) else none) else (spec_l02Quant.f (rd_T52 l0 i).f0).bind fun t=>if t=true then none else (spec_Parts.f k (rd_T52 l0 i).f0 (rd_T52 l0 i).f1 (rd_T52 l0 i).f2 (rd_T52 l0 i).f3 (rd_T52 l0 i).f4 (rd_T52 l0 i).f5).bind fun ps=>(onL k l0 l2 ps 0 1 [0,0,0]).bind fun q=>spec_Apply.f k (rd_T52 l0 i).f0 (rd_T52 l0 i).f1 (rd_T52 l0 i).f2 (rd_T52 l0 i).f3 (rd_T52 l0 i).f4 (rd_T52 l0 i).f5 q.1 (rd q.2 0) (rd q.2 1) (rd q.2 2)) else none
theorem spec_l04One.calls (k:Nat) (A0:Option Addr) (c0:Nat) (l0:List (S52)) (A1:Option Addr) (c1:Nat) (l1:List Int) (A2:Option Addr) (c2:Nat) (l2:List Int) (i:Int) (r:Int) (w:World) (hr0:Kd.C k52 w A0 l0.length l0) (hc0:l0.length≤c0) (hr1:Kd.C (Kd.int .i64) w A1 l1.length l1) (hc1:l1.length≤c1) (hr2:Kd.C (Kd.int .i64) w A2 l2.length l2) (hc2:l2.length≤c2) (h:spec_l04One.f k l0 l1 l2 i=some r) :
  Calls Tryz.prog 91 #[.slice A0 l0.length c0,.slice A1 l1.length c1,.slice A2 l2.length c2,.int .i64 i] w fun e w'=>e = .returned (.int .i64 r)∧Below w.heap.size w w':=by
 have HR0:=Aside0.mk hr0;have HR1:=Aside0.mk hr1;have HR2:=Aside0.mk hr2;clear hr0 hr1 hr2 hc0 hc1 hc2;unfold spec_l04One.f at h
 by_cases c3:0≤i∧i < (l0.length:Int)
 case neg=>rw [if_neg c3] at h;cases h
 rw [if_pos c3] at h;obtain ⟨ad,e_,hx0,hx1,hx2,hx3,hx4,hx5⟩:=at_T52 HR0.out i c3.1 c3.2;cases e_;obtain ⟨c3,c4⟩:=c3;have d3:decide (0≤i)=true:=decide_eq_true c3;have d4:decide (i < (l0.length:Int))=true:=decide_eq_true c4;replace c3:=eq_true c3;replace c4:=eq_true c4;have H:=Aside0.mk h;clear h
 go_enter Tryz.func91,Tryz.ntmps91
 go_upto_region 2 with (first|((with_reducible refine gate_dst (N:=9) rfl ?_);refine bx (N:=9) (cs:=#[.int .i64 0,.int .i64 0,.int .i64 0,.int .i64 0,.int .i64 0,.int .i64 0]) (t:=52) ?_;intro gn hg w1 hbox hb;have BN0:=Aside0.mk hbox;have HX0:=Aside0.mk hb;have GN:=Aside0.mk (show w.heap.size≤gn by rw [hg];exact Nat.le_refl _);have hz0:w1.cell? ⟨gn,0,none⟩=some (.int .i64 0):=(blk_cell BN0.out 0).trans rfl;have hfz0:=blk_frozen BN0.out 0;have hz1:w1.cell? ⟨gn,1,none⟩=some (.int .i64 0):=(blk_cell BN0.out 1).trans rfl;have hfz1:=blk_frozen BN0.out 1;have hz2:w1.cell? ⟨gn,2,none⟩=some (.int .i64 0):=(blk_cell BN0.out 2).trans rfl;have hfz2:=blk_frozen BN0.out 2;have hz3:w1.cell? ⟨gn,3,none⟩=some (.int .i64 0):=(blk_cell BN0.out 3).trans rfl;have hfz3:=blk_frozen BN0.out 3;have hz4:w1.cell? ⟨gn,4,none⟩=some (.int .i64 0):=(blk_cell BN0.out 4).trans rfl;have hfz4:=blk_frozen BN0.out 4;have hz5:w1.cell? ⟨gn,5,none⟩=some (.int .i64 0):=(blk_cell BN0.out 5).trans rfl;have hfz5:=blk_frozen BN0.out 5;clear hg hbox hb))
 have HB5:Aside0 (Below w.heap.size w ((((((w1.setCell ⟨gn,0,none⟩ (.int .i64 (rd_T52 l0 i).f0)).setCell ⟨gn,1,none⟩ (.int .i64 (rd_T52 l0 i).f1)).setCell ⟨gn,2,none⟩ (.int .i64 (rd_T52 l0 i).f2)).setCell ⟨gn,3,none⟩ (.int .i64 (rd_T52 l0 i).f3)).setCell ⟨gn,4,none⟩ (.int .i64 (rd_T52 l0 i).f4)).setCell ⟨gn,5,none⟩ (.int .i64 (rd_T52 l0 i).f5))):=⟨below_set (below_set (below_set (below_set (below_set (below_set (HX0.out) GN.out) GN.out) GN.out) GN.out) GN.out) GN.out⟩;have BN5:Aside0 (((((((w1.setCell ⟨gn,0,none⟩ (.int .i64 (rd_T52 l0 i).f0)).setCell ⟨gn,1,none⟩ (.int .i64 (rd_T52 l0 i).f1)).setCell ⟨gn,2,none⟩ (.int .i64 (rd_T52 l0 i).f2)).setCell ⟨gn,3,none⟩ (.int .i64 (rd_T52 l0 i).f3)).setCell ⟨gn,4,none⟩ (.int .i64 (rd_T52 l0 i).f4)).setCell ⟨gn,5,none⟩ (.int .i64 (rd_T52 l0 i).f5)).heap[gn]? = some (.cells #[.int .i64 (rd_T52 l0 i).f0,.int .i64 (rd_T52 l0 i).f1,.int .i64 (rd_T52 l0 i).f2,.int .i64 (rd_T52 l0 i).f3,.int .i64 (rd_T52 l0 i).f4,.int .i64 (rd_T52 l0 i).f5] 52 (0,0))):=⟨blk_put (cs:=#[.int .i64 (rd_T52 l0 i).f0,.int .i64 (rd_T52 l0 i).f1,.int .i64 (rd_T52 l0 i).f2,.int .i64 (rd_T52 l0 i).f3,.int .i64 (rd_T52 l0 i).f4,.int .i64 0]) (blk_put (cs:=#[.int .i64 (rd_T52 l0 i).f0,.int .i64 (rd_T52 l0 i).f1,.int .i64 (rd_T52 l0 i).f2,.int .i64 (rd_T52 l0 i).f3,.int .i64 0,.int .i64 0]) (blk_put (cs:=#[.int .i64 (rd_T52 l0 i).f0,.int .i64 (rd_T52 l0 i).f1,.int .i64 (rd_T52 l0 i).f2,.int .i64 0,.int .i64 0,.int .i64 0]) (blk_put (cs:=#[.int .i64 (rd_T52 l0 i).f0,.int .i64 (rd_T52 l0 i).f1,.int .i64 0,.int .i64 0,.int .i64 0,.int .i64 0]) (blk_put (cs:=#[.int .i64 (rd_T52 l0 i).f0,.int .i64 0,.int .i64 0,.int .i64 0,.int .i64 0,.int .i64 0]) (blk_put (cs:=#[.int .i64 0,.int .i64 0,.int .i64 0,.int .i64 0,.int .i64 0,.int .i64 0]) (BN0.out) 0 (.int .i64 (rd_T52 l0 i).f0) rfl) 1 (.int .i64 (rd_T52 l0 i).f1) rfl) 2 (.int .i64 (rd_T52 l0 i).f2) rfl) 3 (.int .i64 (rd_T52 l0 i).f3) rfl) 4 (.int .i64 (rd_T52 l0 i).f4) rfl) 5 (.int .i64 (rd_T52 l0 i).f5) rfl⟩;clear hz0 hfz0 hz1 hfz1 hz2 hfz2 hz3 hfz3 hz4 hfz4 hz5 hfz5 BN0 HX0 hx0 hx1 hx2 hx3 hx4 hx5;generalize ((((((w1.setCell ⟨gn,0,none⟩ (.int .i64 (rd_T52 l0 i).f0)).setCell ⟨gn,1,none⟩ (.int .i64 (rd_T52 l0 i).f1)).setCell ⟨gn,2,none⟩ (.int .i64 (rd_T52 l0 i).f2)).setCell ⟨gn,3,none⟩ (.int .i64 (rd_T52 l0 i).f3)).setCell ⟨gn,4,none⟩ (.int .i64 (rd_T52 l0 i).f4)).setCell ⟨gn,5,none⟩ (.int .i64 (rd_T52 l0 i).f5))=w5 at BN5 HB5 ⊢;obtain ⟨hcn0,hcn1,hcn2,hcn3,hcn4,hcn5⟩:=c6_ BN5;have h:=H.out;clear H
 by_cases c5:(rd_T52 l0 i).f0=1
 ·rw [if_pos c5] at h;have d5:((rd_T52 l0 i).f0 == 1)=true:=beq_iff_eq.2 c5;clear c5
  by_cases c6:0≤(rd_T52 l0 i).f2∧(rd_T52 l0 i).f2 < (l1.length:Int)
  case neg=>rw [if_neg c6] at h;cases h
  rw [if_pos c6] at h;obtain rfl:=Option.some.inj h;clear h;obtain ⟨ad1,e_,hy⟩:=Kd.at_int HR1.out _ c6.1 c6.2;cases e_;replace hy:=ct HB5 hy;obtain ⟨c6,c7⟩:=c6;have d6:decide (0≤(rd_T52 l0 i).f2)=true:=decide_eq_true c6;have d7:decide ((rd_T52 l0 i).f2 < (l1.length:Int))=true:=decide_eq_true c7;replace c6:=eq_true c6;replace c7:=eq_true c7;go_wp2;go_ret;exact ⟨rfl,HB5.out⟩
 rw [if_neg c5] at h;have d5:((rd_T52 l0 i).f0 == 1)=false:=beq_eq_false_iff_ne.2 c5;clear c5;obtain ⟨t,ht,h⟩:=Option.bind_eq_some_iff.1 h;have HQ:=Aside0.mk ht;clear ht
 cases t with
 | true=>rw [if_pos rfl] at h;cases h
 | false =>
 rw [if_neg (by decide)] at h;obtain ⟨ps,hp,h⟩:=Option.bind_eq_some_iff.1 h;obtain ⟨⟨wd',zs'⟩,hl,h⟩:=Option.bind_eq_some_iff.1 h;have HP:=Aside0.mk hp;have HLL:=Aside0.mk hl;have HAP0:=Aside0.mk h;clear hp hl h;go_wp2_with (first|(go_at_call 58;(try simp only [i64_w,i32_w]);(with_reducible refine (spec_l02Quant.calls (rd_T52 l0 i).f0 false _ HQ.out).mono ?_);rintro e w' ⟨rfl,⟨nd,rfl⟩⟩)|((with_reducible refine gate_dst (N:=66) rfl ?_);refine Kd.R_lit (Kd.int .i64) _ 3 ?hg (N:=66) ?hd (xs:=([0,0,0]:List Int)) (inner:=[.int .i64 0,.int .i64 0,.int .i64 0]) (ok:=fun _=>True) (okp:=fun _=>True) ?hr ?hp (fun _ hk=>hk) trivial (Below.refl _ _) (Nat.le_refl _) (by simp) ?_;(case hd=>rfl);(case hg=>rfl);(case hr=>first|(go_simp;done)|(go_simp;rfl));(case hp=>exact (Reps.one (show Kd.M (Kd.int .i64) _ _ _ 0 [.int .i64 0] from rfl) (Reps.one (show Kd.M (Kd.int .i64) _ _ _ 0 [.int .i64 0] from rfl) (Reps.one (show Kd.M (Kd.int .i64) _ _ _ 0 [.int .i64 0] from rfl) (Reps.none _ _)))));intro v102 w6 ho hb hg_ hnew_;clear hg_ hnew_;have HZ6:=Aside0.mk (Kd.R_lower ho (pw_below_drewN HB5.out _).size);have HB6:=Aside0.mk (below_step (pw_below_drewN HB5.out _) hb);have BN6:=Aside0.mk (blk_below (blk_drewN BN5.out _) hb);clear ho hb;obtain ⟨gz,cz,ez,GZ,GZL,_⟩:=Kd.R_form HZ6.out (by simp);subst ez;have GZ_:=Aside0.mk GZ;have GZL_:=Aside0.mk GZL;clear GZ GZL;clear hcn0 hcn1 hcn2 hcn3 hcn4 hcn5;obtain ⟨hcn0,hcn1,hcn2,hcn3,hcn4,hcn5⟩:=c6_ BN6)|((with_reducible refine gate_callee (f:=27) rfl ?_);(try (refine gate_guard (by rfl) ?_;dsimp only));refine goesL_ (some 68) rfl rfl Tryz.func27 (by kernel_rfl) rfl #[.agg #[.int .i64 (rd_T52 l0 i).f0,.int .i64 (rd_T52 l0 i).f1,.int .i64 (rd_T52 l0 i).f2,.int .i64 (rd_T52 l0 i).f3,.int .i64 (rd_T52 l0 i).f4,.int .i64 (rd_T52 l0 i).f5]] rfl ml ?_;(with_reducible refine (spec_Parts.calls k (rd_T52 l0 i).f0 (rd_T52 l0 i).f1 (rd_T52 l0 i).f2 (rd_T52 l0 i).f3 (rd_T52 l0 i).f4 (rd_T52 l0 i).f5 ps _ HP.out).mono ?_);rintro e w7 ⟨v_,rfl,ho,hb⟩;refine ⟨_,rfl,?_⟩;have HRp:=Aside0.mk (Kd.R_mono (Kd.R_bound (Kd.R_lower ho (Nat.le_refl _))) (ok':=fun k=>k≠gz) (fun k hk=>by have:=hk.2.1;have:=GZL_.out;omega));have HRq:=Aside0.mk (Kd.R_lower HRp.out HB6.out.size);have HZ7:=Aside0.mk (Kd.R_below HZ6.out hb);have HB7:=Aside0.mk (below_step HB6.out hb);have BN7:=Aside0.mk (blk_below BN6.out hb);clear ho hb;clear hcn0 hcn1 hcn2 hcn3 hcn4 hcn5;obtain ⟨Ap,cp,ep⟩:=Kd.R_slice HRq.out;subst ep))
 have NZ:=Aside0.mk (show gn≠gz from fun e=>by
  obtain ⟨cs,hcs⟩:=Kd.R_typed HZ7.out gz rfl;rw [← e,BN7.out] at hcs
  simp at hcs)
 go_loopg [15,17] k (fun kq v15 v17 wr=>∃ (wd j:Int) (zs:List Int),v15 = .int .i64 wd∧v17 = .int .i64 j∧Aside0 (onL kq l0 l2 ps j wd zs=some (wd',zs'))∧Aside0 (kq≤k)∧Aside0 (zs.length=3)∧Aside0 (wr.heap[gn]? = some (.cells #[.int .i64 (rd_T52 l0 i).f0,.int .i64 (rd_T52 l0 i).f1,.int .i64 (rd_T52 l0 i).f2,.int .i64 (rd_T52 l0 i).f3,.int .i64 (rd_T52 l0 i).f4,.int .i64 (rd_T52 l0 i).f5] 52 (0,0)))∧Aside0 (Kd.R (Kd.int .i64) 3 wr w.heap.size (fun k=>k≠gz) (.slice Ap ps.length cp) ps)∧Aside0 (Kd.R (Kd.int .i64) 3 wr w.heap.size (fun _=>True) (.slice (some ⟨gz,0,none⟩) 3 cz) zs)∧Aside0 (Below w.heap.size w wr))
 case atStart=>exact ⟨1,0,[0,0,0],rfl,rfl,HLL,⟨Nat.le_refl _⟩,⟨rfl⟩,BN7,HRq,⟨HZ7.out⟩,HB7⟩
 case round =>
  clear HLL BN7 HRq HRp HZ7 HB7 d3 d4 c3 c4 d5;obtain ⟨wd,j,zs,rfl,rfl,HA,HK1,HL,BN,HR,HZ,HB⟩:=hrel
  cases gk with
  | zero=>exact absurd HA.out (by simp [onL])
  | succ k1 =>
  have H:=HA.out;clear HA;simp only [onL] at H
  by_cases c3:j < (ps.length:Int)
  ·rw [if_pos c3] at H
   by_cases c4:0≤j∧j < (zs.length:Int)
   case neg=>rw [if_neg c4] at H;cases H
   rw [if_pos c4] at H
   by_cases c6:0≤rd ps j∧rd ps j < (l2.length:Int)
   case neg=>rw [if_neg c6] at H;cases H
   rw [if_pos c6] at H;rw [HL.out] at c4;obtain ⟨c4,c5⟩:=c4;obtain ⟨ap,e_,hp⟩:=Kd.at_int (Kd.R_reads' HR.out).2.2 j c4 c3;cases e_;obtain ⟨ad2,e_,hy⟩:=Kd.at_int HR2.out _ c6.1 c6.2;cases e_;replace hy:=ct HB hy;obtain ⟨hz1,hf1⟩:=on_get HZ.out j c4 c5;have HZs:=Aside0.mk (on_put HZ.out j (rd l2 (rd ps j))).1;have HRs:=Aside0.mk (Kd.R_grown HR.out (on_put HZ.out j (rd l2 (rd ps j))).2 (fun k hk e=>hk (by injection e)));have HBs:=Aside0.mk (below_set (j:=j.toNat) (v := .int .i64 (rd l2 (rd ps j))) HB.out GZ_.out);obtain ⟨ap2,e_,hp2⟩:=Kd.at_int (Kd.R_reads' HRs.out).2.2 j c4 c3
   obtain rfl:ap=ap2:=by injection e_
   clear e_;have d3:decide (j < (ps.length:Int))=true:=decide_eq_true c3;have d4:decide (0≤j)=true:=decide_eq_true c4;have d7:decide (j < 3)=true:=decide_eq_true c5;obtain ⟨c6,c7⟩:=c6;have C6:=Aside0.mk c6;have d6:decide (0≤rd ps j)=true:=decide_eq_true c6;have d8:decide (rd ps j < (l2.length:Int))=true:=decide_eq_true c7;replace c3:=eq_true c3;replace c4:=eq_true c4;replace c5:(j < 3)=True:=eq_true c5;replace c6:=eq_true c6;replace c7:=eq_true c7
   by_cases z0:j=0
   ·rw [if_pos z0] at H;have ee0:(j == 0)=true:=beq_iff_eq.2 z0
    by_cases c8:rd ps j < (l0.length:Int)
    case neg=>rw [if_neg c8] at H;cases H
    rw [if_pos c8] at H;obtain ⟨ad3,e_,_,hx1,_⟩:=at_T52 HR0.out (rd ps j) C6.out c8
    obtain rfl:ad=ad3:=by injection e_
    clear e_;replace hx1:=ct HBs hx1;have d9:decide (rd ps j < (l0.length:Int))=true:=decide_eq_true c8;replace c8:=eq_true c8;have H':=Aside0.mk H;clear H z0;go_wp2;go_roundg k1
    case measure=>have:=HK1.out;omega
    case rel=>exact ⟨_,wrap64 (j + 1),_,(by first|rfl|(simp;done)),(by first|rfl|(simp;done)),H',⟨by have:=HK1.out;omega⟩,⟨by rw [List.length_set];exact HL.out⟩,⟨blk_far BN.out NZ.out _⟩,HRs,HZs,HBs⟩
   ·rw [if_neg z0] at H;have ee0:(j == 0)=false:=beq_eq_false_iff_ne.2 z0;have H':=Aside0.mk H;clear H z0;go_wp2;go_roundg k1
    case measure=>have:=HK1.out;omega
    case rel=>exact ⟨_,wrap64 (j + 1),_,(by first|rfl|(simp;done)),(by first|rfl|(simp;done)),H',⟨by have:=HK1.out;omega⟩,⟨by rw [List.length_set];exact HL.out⟩,⟨blk_far BN.out NZ.out _⟩,HRs,HZs,HBs⟩
  ·rw [if_neg c3] at H;have d3:decide (j < (ps.length:Int))=false:=decide_eq_false c3;clear c3
   obtain ⟨rfl,rfl⟩:wd=wd'∧zs=zs':=by simpa using H
   have HAP:Aside0 (spec_Apply.f k (rd_T52 l0 i).f0 (rd_T52 l0 i).f1 (rd_T52 l0 i).f2 (rd_T52 l0 i).f3 (rd_T52 l0 i).f4 (rd_T52 l0 i).f5 wd (rd zs 0) (rd zs 1) (rd zs 2)=some r):=⟨HAP0.out⟩;clear H HAP0;go_wp2;have BN8:=Aside0.mk (blk_drew BN.out);have HZ8:=Aside0.mk (Kd.R_drew HZ.out);have HB8:=Aside0.mk (below_drew1 HB.out);refine start_ (n:=13) (S:=fun w'=>w'.cell? ⟨gn,0,none⟩=some (.int .i64 (rd_T52 l0 i).f0)∧w'.cell? ⟨gn,1,none⟩=some (.int .i64 (rd_T52 l0 i).f1)∧w'.cell? ⟨gn,2,none⟩=some (.int .i64 (rd_T52 l0 i).f2)∧w'.cell? ⟨gn,3,none⟩=some (.int .i64 (rd_T52 l0 i).f3)∧w'.cell? ⟨gn,4,none⟩=some (.int .i64 (rd_T52 l0 i).f4)∧w'.cell? ⟨gn,5,none⟩=some (.int .i64 (rd_T52 l0 i).f5)∧w'.cell? ⟨gz,0,none⟩=some (.int .i64 (rd zs 0))∧w'.cell? ⟨gz,1,none⟩=some (.int .i64 (rd zs 1))∧w'.cell? ⟨gz,2,none⟩=some (.int .i64 (rd zs 2))) (ds:=[11]) (tf 0 13) (by kernel_rfl) rfl rfl ⟨(blk_cell BN8.out 0).trans rfl,(blk_cell BN8.out 1).trans rfl,(blk_cell BN8.out 2).trans rfl,(blk_cell BN8.out 3).trans rfl,(blk_cell BN8.out 4).trans rfl,(blk_cell BN8.out 5).trans rfl,(on_get HZ8.out 0 (by decide) (by decide)).1,(on_get HZ8.out 1 (by decide) (by decide)).1,(on_get HZ8.out 2 (by decide) (by decide)).1⟩ (fun hHeld=>?_);generalize wr.drew=w8 at BN8 HZ8 HB8 hHeld ⊢;refine pv 1 96 #[false,true,false,false,false,false,false,false,false,false,false,false,false] ?_;refine pv 2 97 #[false,true,true,false,false,false,false,false,false,false,false,false,false] ?_;refine pv 3 98 #[false,true,true,true,false,false,false,false,false,false,false,false,false] ?_;refine pv 5 100 #[false,true,true,true,false,true,false,false,false,false,false,false,false] ?_;refine pv 6 101 #[false,true,true,true,false,true,true,false,false,false,false,false,false] ?_;refine pv 8 103 #[false,true,true,true,false,true,true,false,true,false,false,false,false] ?_;refine pv 9 104 #[false,true,true,true,false,true,true,false,true,true,false,false,false] ?_;refine tv 0 95 #[true,true,true,true,false,true,true,false,true,true,false,false,false] hHeld ?_;refine tv 4 99 #[true,true,true,true,true,true,true,false,true,true,false,false,false] hHeld ?_;refine tv 7 102 (tf 10 3) hHeld ?_;refine tv 10 105 (tf 11 2) hHeld ?_;refine last_ (i:=11) (N:=some 106) (tf 12 1) rfl rfl (by kernel_rfl) (by decide) (fun K hK=>?_);refine goes_ Tryz.func108 (by kernel_rfl) rfl #[.agg #[.int .i64 (rd_T52 l0 i).f0,.int .i64 (rd_T52 l0 i).f1,.int .i64 (rd_T52 l0 i).f2,.int .i64 (rd_T52 l0 i).f3,.int .i64 (rd_T52 l0 i).f4,.int .i64 (rd_T52 l0 i).f5],.int .i64 wd,.int .i64 (rd zs 0),.int .i64 (rd zs 1),.int .i64 (rd zs 2)] (by rfl) rfl rfl (by simp only [List.map_toArray,List.map_cons,List.map_nil];rfl) ?_
   with_reducible refine (spec_Apply.calls k (rd_T52 l0 i).f0 (rd_T52 l0 i).f1 (rd_T52 l0 i).f2 (rd_T52 l0 i).f3 (rd_T52 l0 i).f4 (rd_T52 l0 i).f5 wd (rd zs 0) (rd zs 1) (rd zs 2) r _ HAP.out).mono ?_
   rintro e w9 ⟨rfl,hb⟩;refine ⟨_,rfl,?_⟩;have HB9:=Aside0.mk (below_step HB8.out hb);refine hK.out _ _ ?_;clear hK K;refine norm_ (a':=?_) ?_ ?_;rotate_left
   ·show Act.put _ (some 106) _=_
    simp only [Act.put,s1,s2,s3,i64_w,i32_w];rfl
   refine pv 12 8 (tf 13 0) ?_;refine done_ (by kernel_rfl) ?_;go_wp2;go_ret;exact ⟨rfl,HB9.out⟩
def atF (l0:List S52) (l1:List Int) (a2:Int):Nat→List Int→Int→Option Int
 | 0,_,_=>none
 | k + 1,vals,i=>if i≤a2 then (spec_l04One.f k l0 l1 vals i).bind fun v=>if vals.length < 17592186044416 then atF l0 l1 a2 k (vals ++ [v]) (wrap64 (i + 1)) else none else (if 0≤a2∧a2 < (vals.length:Int) then some (rd vals a2) else none)
def spec_l04At.f (k:Nat) (l0:List S52) (l1:List Int) (a2:Int):Option Int:=atF l0 l1 a2 k [] 0
theorem spec_l04At.calls (k:Nat) (A0:Option Addr) (c0:Nat) (l0:List (S52)) (A1:Option Addr) (c1:Nat) (l1:List Int) (a2:Int) (r:Int) (w:World) (hr0:Kd.C k52 w A0 l0.length l0) (hc0:l0.length≤c0) (hr1:Kd.C (Kd.int .i64) w A1 l1.length l1) (hc1:l1.length≤c1) (h:spec_l04At.f k l0 l1 a2=some r) :
  Calls Tryz.prog 67 #[.slice A0 l0.length c0,.slice A1 l1.length c1,.int .i64 a2] w fun e w'=>e = .returned (.int .i64 r)∧Below w.heap.size w w':=by
 have HR0:=Aside0.mk hr0;have HR1:=Aside0.mk hr1;have HC0:=Aside0.mk hc0;have HC1:=Aside0.mk hc1;have HF:Aside0 (atF l0 l1 a2 k [] 0=some r):=⟨h⟩;clear hr0 hr1 hc0 hc1 h
 go_enter Tryz.func67,Tryz.ntmps67
 go_wp2_with (first|((with_reducible refine gate_dst (N:=9) rfl ?_);refine Kd.R_lit (Kd.int .i64) _ 3 ?hg (N:=9) ?hd (xs:=([]:List Int)) (inner:=[]) (ok:=fun _=>True) (okp:=fun _=>True) ?hr ?hp (fun _ hk=>hk) trivial (Below.refl _ _) (Nat.le_refl _) (by simp) ?_;(case hd=>rfl);(case hg=>rfl);(case hr=>first|(go_simp;done)|(go_simp;rfl));(case hp=>exact (Reps.none _ _));intro v102 w1 ho hb hg_ hnew_;clear hg_ hnew_;have HO1:=Aside0.mk ho;have HB1:=Aside0.mk hb;clear ho hb))
 go_loopg [7,8] k (fun kq v7 v8 wr=>∃ (i:Int) (vals:List Int),v8 = .int .i64 i∧Aside0 (atF l0 l1 a2 kq vals i=some r)∧Aside0 (kq≤k)∧Aside0 (Kd.R (Kd.int .i64) 3 wr w.heap.size (fun _=>True) v7 vals)∧Aside0 (Below w.heap.size w wr))
 case atStart=>exact ⟨0,[],rfl,HF,⟨Nat.le_refl _⟩,HO1,HB1⟩
 case round =>
  clear HF HO1 HB1;obtain ⟨i,vals,rfl,HA,HK1,HO,HB⟩:=hrel;obtain ⟨Av,cv,ev⟩:=Kd.R_slice HO.out;subst ev
  cases gk with
  | zero=>exact absurd HA.out (by simp [atF])
  | succ k1 =>
  have H:=HA.out;clear HA;simp only [atF] at H
  by_cases c3:i≤a2
  ·rw [if_pos c3] at H;obtain ⟨v,hv,H⟩:=Option.bind_eq_some_iff.1 H
   by_cases c4:vals.length < 17592186044416
   case neg=>rw [if_neg c4] at H;cases H
   rw [if_pos c4] at H;have LM:=Aside0.mk c4;have HV:=Aside0.mk hv;have H':=Aside0.mk H;have d3:decide (i≤a2)=true:=decide_eq_true c3;clear hv H c3 c4;go_wp2_with (first|((with_reducible refine gate_callee (f:=91) rfl ?_);(try (refine gate_guard (by rfl) ?_;dsimp only));refine goesL_ (some 20) rfl rfl Tryz.func91 (by kernel_rfl) rfl #[.slice A0 l0.length c0,.slice A1 l1.length c1,.slice Av vals.length cv,.int .i64 i] rfl ml ?_;(with_reducible refine (spec_l04One.calls k1 A0 c0 l0 A1 c1 l1 Av cv vals i v _ (Kd.C_below HR0.out HB.out) HC0.out (Kd.C_below HR1.out HB.out) HC1.out (Kd.R_reads' HO.out).2.2 (Kd.R_reads' HO.out).2.1 HV.out).mono ?_);rintro e w5 ⟨rfl,hb⟩;refine ⟨_,rfl,?_⟩;have HO5:=Aside0.mk (Kd.R_below HO.out hb);have HB5:=Aside0.mk (below_step HB.out hb);clear hb)|((with_reducible refine gate_builtin (b := .append) (xs:=#[.tmp 15,.tmp 21]) rfl ?_);at_builtin;refine Kd.R_append (Kd.int .i64) (w0:=w) w.heap.size rfl (.tmp 15) (.tmp 21) 42 3 (.int .i64 0) 8 rfl Tryz.underlying42 info3 rfl (by decide) (by omega) (.slice Av vals.length cv) vals v [.int .i64 v] (fun _=>True) (fun _=>False) rfl rfl ?aP (fun _ hk=>hk.elim) ?aF ?aO ?aB ?aS ?aL ?_;(case aP=>exact rfl);(case aB=>exact (by repeat (first|(with_reducible first|exact HB5.out|apply below_alloc|apply pw_below_drewN|apply below_drew1)|exact HB5.out)));(case aF=>exact (fun _ _=>trivial));(case aO=>exact (ra HO5));(case aS=>exact (below_size (by repeat (first|(with_reducible first|exact HB5.out|apply below_alloc|apply pw_below_drewN|apply below_drew1)|exact HB5.out))));(case aL=>have:=LM.out;omega);intro v105 w6 ho hb hg hat;have HB6:=Aside0.mk hb;have HO6:=Aside0.mk ho;clear ho hb hg hat));go_roundg k1
   case measure=>have:=HK1.out;omega
   case rel=>exact ⟨wrap64 (i + 1),vals ++ [v],(by first|rfl|(simp;done)),H',⟨by have:=HK1.out;omega⟩,HO6,HB6⟩
  ·rw [if_neg c3] at H;have d3:decide (i≤a2)=false:=decide_eq_false c3;clear c3
   by_cases c6:0≤a2∧a2 < (vals.length:Int)
   case neg=>rw [if_neg c6] at H;cases H
   rw [if_pos c6] at H;obtain rfl:=os H;obtain ⟨ad1,e_,hy⟩:=Kd.at_int (Kd.R_reads' HO.out).2.2 _ c6.1 c6.2;cases e_;obtain ⟨c6,c7⟩:=c6;have d6:decide (0≤a2)=true:=decide_eq_true c6;have d7:decide (a2 < (vals.length:Int))=true:=decide_eq_true c7;replace c6:=eq_true c6;replace c7:=eq_true c7;clear H;go_wp2;go_ret;exact ⟨rfl,HB.out⟩
mutual
def spec_l05Holds.l0:Nat→List (S31)→List (S52)→List Int→Int→Int→Int→Int→Option (Int × List Int)
 | 0,_,_,_,_,_,_,_=>none
 | k + 1,x0,x1,x2,x3,x9,x10,x11=>if 0≤x3 then (if x3 < (x0.length:Int) then ((spec_l01Pow2.f k ((rd_T31 x0 x3).f2)).bind fun A7=>(if x11 < A7 then (if 0≤((rd_T31 x0 x3).f1) then (if ((rd_T31 x0 x3).f1) < (x2.length:Int) then ((spec_l05Holds.f k x0 x1 (x2.set (((rd_T31 x0 x3).f1):Int).toNat x11) (wrap64 (x3 + 1))).bind fun bt106=>(if bt106.1=1 then (spec_l05Holds.l0 k x0 x1 bt106.2 x3 x9 1 (wrap64 (x11 + 1))) else (spec_l05Holds.l0 k x0 x1 bt106.2 x3 0 x10 (wrap64 (x11 + 1))))) else (none)) else (none)) else (if (rd_T31 x0 x3).f0=true then (some (x9,x2)) else (some (x10,x2))))) else (none)) else (none)
def spec_l05Holds.f:Nat→List (S31)→List (S52)→List Int→Int→Option (Int × List Int)
 | 0,_,_,_,_=>none
 | k + 1,l0,l1,l2,a3=>if a3=(l0.length:Int) then ((spec_l04At.f k l1 l2 (wrap64 ((l1.length:Int) - 1))).bind fun Ab=>(some (Ab,l2))) else (spec_l05Holds.l0 k l0 l1 l2 a3 1 0 0)
end
theorem spec_l05Holds.calls (k:Nat):∀ (A0:Option Addr) (c0:Nat) (l0:List (S31)) (A1:Option Addr) (c1:Nat) (l1:List (S52)) (P2_:Nat→Prop) (u9000_:Value) (l2:List Int) (a3:Int) (r1:Int) (r2:List Int) (w0 w:World) (hB:Below w0.heap.size w0 w) (hr0:∀ W_,Kept w W_ (fun k_=>P2_ k_)→Kd.C k31 W_ A0 l0.length l0) (hc0:l0.length≤c0) (hr1:∀ W_,Kept w W_ (fun k_=>P2_ k_)→Kd.C k52 W_ A1 l1.length l1) (hc1:l1.length≤c1) (ho2:Kd.R (Kd.int .i64) 3 w w0.heap.size P2_ u9000_ l2) (h:spec_l05Holds.f k l0 l1 l2 a3=some (r1,r2)),
  Calls Tryz.prog 34 #[.slice A0 l0.length c0,.slice A1 l1.length c1,u9000_,.int .i64 a3] w fun e w'=>e = .returned (.int .i64 r1)∧Kd.R (Kd.int .i64) 3 w' w0.heap.size (fun k_=>(P2_ k_∨w.heap.size≤k_)) u9000_ r2∧Below w0.heap.size w0 w'∧Kept w w' (fun k_=>P2_ k_):=by
 induction k using Nat.strongRecOn with
 | _ k ih =>
 intro A0 c0 l0 A1 c1 l1 P2_ u9000_ l2 a3 r1 r2 w0 w hB hr0 hc0 hr1 hc1 ho2 h
 cases k with
 | zero=>exact absurd h (by simp [spec_l05Holds.f])
 | succ k =>
 simp only [spec_l05Holds.f] at h;have HR0:=Aside0.mk hr0;have HC0:=Aside0.mk hc0;clear hr0 hc0;have HR1:=Aside0.mk hr1;have HC1:=Aside0.mk hc1;clear hr1 hc1;have Ae:=Aside0.mk (show Kd.R (Kd.int .i64) 3 w w0.heap.size (fun k_=>(P2_ k_∨w.heap.size≤k_)) u9000_ l2 from Kd.R_mono ho2 (fun k_ hk=>(.inl hk)));have HK:=Aside0.mk (Kept.refl w (fun k_=>P2_ k_));have HW0:=Aside0.mk hB.size;have HB:=Aside0.mk hB;clear hB;have H:(if a3=(l0.length:Int) then ((spec_l04At.f k l1 l2 (wrap64 ((l1.length:Int) - 1))).bind fun Ab=>(some (Ab,l2))) else (spec_l05Holds.l0 k l0 l1 l2 a3 1 0 0))=some (r1,r2):=h;clear h
 by_cases c5:a3=(l0.length:Int)
 ·rw [if_pos c5] at H;have c5b0:(a3 == (l0.length:Int))=true:=beq_iff_eq.mpr c5;have c5b1:(a3 != (l0.length:Int))=false:=bne_eq_false_iff_eq.mpr c5;clear c5;replace H:=ob H;obtain ⟨Ab,A60,H⟩:=H;replace H:(some (Ab,l2))=some (r1,r2):=H;have A6:=Aside0.mk A60;clear A60;simp only [Option.some.injEq,Prod.mk.injEq] at H;obtain ⟨rfl,rfl⟩:=H;obtain ⟨Ao7,co7,eo7⟩:=Kd.R_slice Ae.out;subst eo7
  go_enter Tryz.func34,Tryz.ntmps34
  go_wp2_with (first|((with_reducible refine gate_callee (f:=67) rfl ?_);refine goesL_ (some 21) rfl rfl Tryz.func67 (by kernel_rfl) rfl #[.slice A1 l1.length c1,.slice Ao7 l2.length co7,.int .i64 (wrap64 ((l1.length:Int) - 1))] rfl ml ?_;(with_reducible refine (spec_l04At.calls k _ _ l1 _ _ l2 (wrap64 ((l1.length:Int) - 1)) Ab _ ?side1 ?side2 ?side3 ?side4 A6.out).mono ?_);(case side1=>exact Kd.C_kept_now HR1.out (tk HK));(case side2=>exact HC1.out);(case side3=>exact cw (Kd.R_reads' Ae.out).2.2);(case side4=>exact (Kd.R_reads' Ae.out).2.1);rintro e w8 ⟨rfl,hb⟩;refine ⟨_,rfl,?_⟩;replace Ae:=Aside0.mk (Kd.R_below (ra Ae) hb);replace HK:=Aside0.mk (Kept.below (S:=(fun k_=>P2_ k_)) (tk HK) hb);replace HB:=Aside0.mk (below_step (tb HB) hb);(try clear hb);(try clear hb2);(try clear hk);(try clear hi)));go_ret;exact ⟨er,ra Ae,tb HB,tk HK⟩
 ·rw [if_neg c5] at H;have c5b0:(a3 == (l0.length:Int))=false:=beq_eq_false_iff_ne.mpr c5;have c5b1:(a3 != (l0.length:Int))=true:=bne_iff_ne.mpr c5;have H':=Aside0.mk H;clear H
  go_enter Tryz.func34,Tryz.ntmps34
  go_wp2
  go_loopg [9,10,11] k (fun kq v9 v10 v11 w'=>∃ (A4:List Int) (A9:Int) (A5:Int) (A3:Int),v9 = .int .i64 A9∧v10 = .int .i64 A5∧v11 = .int .i64 A3∧Aside0 (spec_l05Holds.l0 kq l0 l1 A4 a3 A9 A5 A3=some (r1,r2))∧Aside0 (kq≤k)∧Aside0 (Kd.R (Kd.int .i64) 3 w' w0.heap.size (fun k_=>(P2_ k_∨w.heap.size≤k_)) u9000_ A4)∧Aside0 (Kept w w' (fun k_=>P2_ k_))∧Aside0 (Below w0.heap.size w0 w'))
  case atStart=>exact ⟨(l2),(1),(0),(0),(by first|rfl|(simp;done)|(simp [*];done)),(by first|rfl|(simp;done)|(simp [*];done)),(by first|rfl|(simp;done)|(simp [*];done)),H',⟨Nat.le_refl _⟩,⟨ra Ae⟩,⟨by exact tk HK⟩,⟨by exact tb HB⟩⟩
  case round =>
   clear H';(try clear c1);(try clear p2);(try clear c3);(try clear c5);(try clear c5b0);(try clear c5b1);(try clear c6);(try clear p6);obtain ⟨A4,A9,A5,A3,rfl,rfl,rfl,HA,HK1,A2,HK,HB⟩:=hrel
   cases gk with
   | zero=>exact absurd HA.out (by simp [spec_l05Holds.l0])
   | succ k1 =>
    have H:=HA.out;clear HA;simp only [spec_l05Holds.l0] at H
    by_cases c9:0≤a3
    ·rw [if_pos c9] at H;have c9b0:decide (0≤a3)=true:=decide_eq_true c9;clear c9
     by_cases c10:a3 < (l0.length:Int)
     ·rw [if_pos c10] at H;have c10b0:decide (a3 < (l0.length:Int))=true:=decide_eq_true c10;clear c10;replace H:=ob H;obtain ⟨A7,A110,H⟩:=H
      try dsimp only at H
      have A11:=Aside0.mk A110;clear A110
      by_cases c12:A3 < A7
      ·rw [if_pos c12] at H;have c12b0:decide (A3 < A7)=true:=decide_eq_true c12;clear c12
       by_cases c13:0≤((rd_T31 l0 a3).f1)
       ·rw [if_pos c13] at H;have c13b0:decide (0≤((rd_T31 l0 a3).f1))=true:=decide_eq_true c13;clear c13
        by_cases c14:((rd_T31 l0 a3).f1) < (A4.length:Int)
        ·rw [if_pos c14] at H;have c14b0:decide (((rd_T31 l0 a3).f1) < (A4.length:Int))=true:=decide_eq_true c14;clear c14;obtain ⟨y105,hy105⟩:∃ y_:List Int,y_=(A4.set (((rd_T31 l0 a3).f1):Int).toNat A3):=⟨_,rfl⟩;replace H:((spec_l05Holds.f k1 l0 l1 y105 (wrap64 (a3 + 1))).bind fun bt106=>(if bt106.1=1 then (spec_l05Holds.l0 k1 l0 l1 bt106.2 a3 A9 1 (wrap64 (A3 + 1))) else (spec_l05Holds.l0 k1 l0 l1 bt106.2 a3 0 A5 (wrap64 (A3 + 1)))))=some (r1,r2):=hy_ hy105 H;have Ny105:=Aside0.mk hy105;clear hy105;replace H:=ob H;obtain ⟨⟨Aa,Ad⟩,A160,H⟩:=H
         try dsimp only at H
         have A16:=Aside0.mk A160;clear A160
         by_cases c17:Aa=1
         ·rw [if_pos c17] at H;have c17b0:(Aa == 1)=true:=beq_iff_eq.mpr c17;have c17b1:(Aa != 1)=false:=bne_eq_false_iff_eq.mpr c17;clear c17;have H':=Aside0.mk H;clear H;have p102:0≤(a3:Int):=od;have q102:a3 < (l0.length:Int):=od;obtain ⟨ad102,e102,hx102_0,hx102_1,hx102_2⟩:=at_T31 (Kd.C_kept_now HR0.out HK.out) a3 p102 q102;cases e102;replace p102:=eq_true p102;replace q102:=eq_true q102
          go_wp2_with (first|((with_reducible refine gate_callee (f:=68) rfl ?_);refine goesL_ (some 28) rfl rfl Tryz.func68 (by kernel_rfl) rfl #[.int .i64 ((rd_T31 l0 a3).f2)] rfl ml ?_;(with_reducible refine (spec_l01Pow2.calls k1 ((rd_T31 l0 a3).f2) A7 _ A11.out).mono ?_);rintro e w' ⟨rfl,⟨nd,rfl⟩⟩;refine ⟨_,rfl,?_⟩;(try (rw [drewN_self wr];generalize hq_:World.drewN wr _=wr;have n0_:Aside0 (Kd.R (Kd.int .i64) 3 wr w0.heap.size (fun k_=>(P2_ k_∨w.heap.size≤k_)) u9000_ A4):=⟨by rw [← hq_];exact (ra A2)⟩;have n1_:Aside0 (Kept w wr (fun k_=>P2_ k_)):=⟨by rw [← hq_];exact (tk HK)⟩;have n2_:Aside0 (Below w0.heap.size w0 wr):=⟨by rw [← hq_];exact (tb HB)⟩;clear A2 HK HB hq_;have A2:=n0_;have HK:=n1_;have HB:=n2_;clear n0_ n1_ n2_));have p104:0≤(a3:Int):=od;have q104:a3 < (l0.length:Int):=od;obtain ⟨ad104,e104,hx104_0,hx104_1,hx104_2⟩:=at_T31 (Kd.C_kept_now HR0.out HK.out) a3 p104 q104;obtain rfl:ad102=ad104:=(by injection e104);replace p104:=eq_true p104;replace q104:=eq_true q104;have p15:0≤(((rd_T31 l0 a3).f1):Int):=od;have q15:(((rd_T31 l0 a3).f1):Int) < ((A4.length:Int):Int):=od;obtain ⟨go15,A8,eo15,Ac,gl15,cl15,HG15⟩:=Kd.R_form A2.out (by omega);(first|cases eo15|(injection eo15 with ea_ en_ ec_;(first|subst ea_|(injection ea_ with ea_;subst ea_));subst ec_;clear en_));have GB15:=Aside0.mk Ac;have GG15:=Aside0.mk HG15;clear Ac gl15 HG15;have HMgo15:=Aside0.mk (show (P2_ go15∨w.heap.size≤go15) from (A2.out.1 _ rfl));obtain ⟨hx15_0,hf15_0⟩:=Kd.R_celln 0 A2.out (((rd_T31 l0 a3).f1):Int) p15 q15;replace p15:=eq_true p15;replace q15:=eq_true q15;obtain ⟨hy18_,hz18_⟩:=Kd.R_celln 0 A2.out (((rd_T31 l0 a3).f1):Int) (od) (od);have HP18:=Kd.R_putg A2.out (((rd_T31 l0 a3).f1):Int) A3)|((with_reducible refine gate_store (t:=3) (p:=39) rfl ?_);refine store_event (t:=3) (p:=39) (v:=?vo_w19) (w1:=(wr.setCell ⟨go15,(((rd_T31 l0 a3).f1):Int).toNat,none⟩ (.int .i64 A3))) ?hg ?ho ?hn ?hr ?_;(case ho=>rfl);(case hg=>rfl);(case hn=>rfl);(case hr=>first|(go_simp;done)|(go_simp;rfl));intro w19 hw;have hg:wr.grownBy w19 (some go15):=(by rw [hw];exact HP18.2);have hp_:Kd.R (Kd.int .i64) 3 w19 w0.heap.size (fun k_=>(P2_ k_∨w.heap.size≤k_)) (.slice (some ⟨go15,0,none⟩) A4.length A8) y105:=(by rw [hw,Ny105.out];exact HP18.1);clear HP18;replace HB:=Aside0.mk ((by rw [hw];exact below_set (HB.out) GB15.out:Below w0.heap.size w0 w19));replace HK:=Aside0.mk (Kept.of_grown (S:=(fun k_=>P2_ k_)) hg (tk HK) (fun k_ e_=>(A2.out.1 k_ e_)));replace A2:=Aside0.mk (hp_);clear hg hw hp_)|((with_reducible refine gate_callee (f:=34) rfl ?_);refine goesL_ (some 45) rfl rfl Tryz.func34 (by kernel_rfl) rfl #[.slice (some ad102) l0.length c0,.slice A1 l1.length c1,.slice (some ⟨go15,0,none⟩) A4.length A8,.int .i64 (wrap64 (a3 + 1))] rfl ml ?_;(with_reducible refine (ih k1 (by have:=HK1.out;omega) _ _ l0 _ _ l1 (fun k_=>some k_=(.slice (some ⟨go15,0,none⟩) A4.length A8:Value).ownBlock) (.slice (some ⟨go15,0,none⟩) A4.length A8) y105 (wrap64 (a3 + 1)) Aa Ad w0 _ ?side1 ?side2 ?side3 ?side4 ?side5 ?side6 A16.out).mono ?_);(case side1=>exact tb HB);(case side2=>exact Kd.C_kept_call HR0.out (tk HK) (fun k_ hs_=>(fun e_=>(A2.out.1 k_ e_.symm)) hs_));(case side3=>exact HC0.out);(case side4=>exact Kd.C_kept_call HR1.out (tk HK) (fun k_ hs_=>(fun e_=>(A2.out.1 k_ e_.symm)) hs_));(case side5=>exact HC1.out);(case side6=>exact Kd.R_tight rfl A2.out);rintro e w20 ⟨rfl,hy0,hb,hkp⟩;refine ⟨_,rfl,?_⟩;replace HK:=Aside0.mk (Kept.then_ (S:=(fun k_=>P2_ k_)) (tk HK) hkp (fun k_ hs_=>(fun e_=>(A2.out.1 k_ e_.symm)) hs_));replace A2:=Aside0.mk (Kd.R_reok rfl hy0 (fun k_ e_=>A2.out.1 k_ e_));replace HB:=Aside0.mk (hb);(try clear hb);(try clear hkp);(try clear hy0)))
          go_roundg k1
          case measure=>have:=HK1.out;omega
          case rel=>exact ⟨(Ad),(A9),(1),(wrap64 (A3 + 1)),(by first|rfl|(simp;done)|(simp [*];done)),(by first|rfl|(simp;done)|(simp [*];done)),(by first|rfl|(simp;done)|(simp [*];done)),H',⟨by have:=HK1.out;omega⟩,⟨ra A2⟩,⟨by exact tk HK⟩,⟨by exact tb HB⟩⟩
         ·rw [if_neg c17] at H;have c17b0:(Aa == 1)=false:=beq_eq_false_iff_ne.mpr c17;have c17b1:(Aa != 1)=true:=bne_iff_ne.mpr c17;have H':=Aside0.mk H;clear H;have p102:0≤(a3:Int):=od;have q102:a3 < (l0.length:Int):=od;obtain ⟨ad102,e102,hx102_0,hx102_1,hx102_2⟩:=at_T31 (Kd.C_kept_now HR0.out HK.out) a3 p102 q102;cases e102;replace p102:=eq_true p102;replace q102:=eq_true q102
          go_wp2_with (first|((with_reducible refine gate_callee (f:=68) rfl ?_);refine goesL_ (some 28) rfl rfl Tryz.func68 (by kernel_rfl) rfl #[.int .i64 ((rd_T31 l0 a3).f2)] rfl ml ?_;(with_reducible refine (spec_l01Pow2.calls k1 ((rd_T31 l0 a3).f2) A7 _ A11.out).mono ?_);rintro e w' ⟨rfl,⟨nd,rfl⟩⟩;refine ⟨_,rfl,?_⟩;(try (rw [drewN_self wr];generalize hq_:World.drewN wr _=wr;have n0_:Aside0 (Kd.R (Kd.int .i64) 3 wr w0.heap.size (fun k_=>(P2_ k_∨w.heap.size≤k_)) u9000_ A4):=⟨by rw [← hq_];exact (ra A2)⟩;have n1_:Aside0 (Kept w wr (fun k_=>P2_ k_)):=⟨by rw [← hq_];exact (tk HK)⟩;have n2_:Aside0 (Below w0.heap.size w0 wr):=⟨by rw [← hq_];exact (tb HB)⟩;clear A2 HK HB hq_;have A2:=n0_;have HK:=n1_;have HB:=n2_;clear n0_ n1_ n2_));have p104:0≤(a3:Int):=od;have q104:a3 < (l0.length:Int):=od;obtain ⟨ad104,e104,hx104_0,hx104_1,hx104_2⟩:=at_T31 (Kd.C_kept_now HR0.out HK.out) a3 p104 q104;obtain rfl:ad102=ad104:=(by injection e104);replace p104:=eq_true p104;replace q104:=eq_true q104;have p15:0≤(((rd_T31 l0 a3).f1):Int):=od;have q15:(((rd_T31 l0 a3).f1):Int) < ((A4.length:Int):Int):=od;obtain ⟨go15,A8,eo15,Ac,gl15,cl15,HG15⟩:=Kd.R_form A2.out (by omega);(first|cases eo15|(injection eo15 with ea_ en_ ec_;(first|subst ea_|(injection ea_ with ea_;subst ea_));subst ec_;clear en_));have GB15:=Aside0.mk Ac;have GG15:=Aside0.mk HG15;clear Ac gl15 HG15;have HMgo15:=Aside0.mk (show (P2_ go15∨w.heap.size≤go15) from (A2.out.1 _ rfl));obtain ⟨hx15_0,hf15_0⟩:=Kd.R_celln 0 A2.out (((rd_T31 l0 a3).f1):Int) p15 q15;replace p15:=eq_true p15;replace q15:=eq_true q15;obtain ⟨hy21_,hz21_⟩:=Kd.R_celln 0 A2.out (((rd_T31 l0 a3).f1):Int) (od) (od);have HP21:=Kd.R_putg A2.out (((rd_T31 l0 a3).f1):Int) A3)|((with_reducible refine gate_store (t:=3) (p:=39) rfl ?_);refine store_event (t:=3) (p:=39) (v:=?vo_w22) (w1:=(wr.setCell ⟨go15,(((rd_T31 l0 a3).f1):Int).toNat,none⟩ (.int .i64 A3))) ?hg ?ho ?hn ?hr ?_;(case ho=>rfl);(case hg=>rfl);(case hn=>rfl);(case hr=>first|(go_simp;done)|(go_simp;rfl));intro w22 hw;have hg:wr.grownBy w22 (some go15):=(by rw [hw];exact HP21.2);have hp_:Kd.R (Kd.int .i64) 3 w22 w0.heap.size (fun k_=>(P2_ k_∨w.heap.size≤k_)) (.slice (some ⟨go15,0,none⟩) A4.length A8) y105:=(by rw [hw,Ny105.out];exact HP21.1);clear HP21;replace HB:=Aside0.mk ((by rw [hw];exact below_set (HB.out) GB15.out:Below w0.heap.size w0 w22));replace HK:=Aside0.mk (Kept.of_grown (S:=(fun k_=>P2_ k_)) hg (tk HK) (fun k_ e_=>(A2.out.1 k_ e_)));replace A2:=Aside0.mk (hp_);clear hg hw hp_)|((with_reducible refine gate_callee (f:=34) rfl ?_);refine goesL_ (some 45) rfl rfl Tryz.func34 (by kernel_rfl) rfl #[.slice (some ad102) l0.length c0,.slice A1 l1.length c1,.slice (some ⟨go15,0,none⟩) A4.length A8,.int .i64 (wrap64 (a3 + 1))] rfl ml ?_;(with_reducible refine (ih k1 (by have:=HK1.out;omega) _ _ l0 _ _ l1 (fun k_=>some k_=(.slice (some ⟨go15,0,none⟩) A4.length A8:Value).ownBlock) (.slice (some ⟨go15,0,none⟩) A4.length A8) y105 (wrap64 (a3 + 1)) Aa Ad w0 _ ?side1 ?side2 ?side3 ?side4 ?side5 ?side6 A16.out).mono ?_);(case side1=>exact tb HB);(case side2=>exact Kd.C_kept_call HR0.out (tk HK) (fun k_ hs_=>(fun e_=>(A2.out.1 k_ e_.symm)) hs_));(case side3=>exact HC0.out);(case side4=>exact Kd.C_kept_call HR1.out (tk HK) (fun k_ hs_=>(fun e_=>(A2.out.1 k_ e_.symm)) hs_));(case side5=>exact HC1.out);(case side6=>exact Kd.R_tight rfl A2.out);rintro e w23 ⟨rfl,hy0,hb,hkp⟩;refine ⟨_,rfl,?_⟩;replace HK:=Aside0.mk (Kept.then_ (S:=(fun k_=>P2_ k_)) (tk HK) hkp (fun k_ hs_=>(fun e_=>(A2.out.1 k_ e_.symm)) hs_));replace A2:=Aside0.mk (Kd.R_reok rfl hy0 (fun k_ e_=>A2.out.1 k_ e_));replace HB:=Aside0.mk (hb);(try clear hb);(try clear hkp);(try clear hy0)))
          go_roundg k1
          case measure=>have:=HK1.out;omega
          case rel=>exact ⟨(Ad),(0),(A5),(wrap64 (A3 + 1)),(by first|rfl|(simp;done)|(simp [*];done)),(by first|rfl|(simp;done)|(simp [*];done)),(by first|rfl|(simp;done)|(simp [*];done)),H',⟨by have:=HK1.out;omega⟩,⟨ra A2⟩,⟨by exact tk HK⟩,⟨by exact tb HB⟩⟩
        ·rw [if_neg c14] at H;exact absurd H (by simp)
       ·rw [if_neg c13] at H;exact absurd H (by simp)
      ·rw [if_neg c12] at H;have c12b0:decide (A3 < A7)=false:=decide_eq_false c12;clear c12;obtain ⟨bq24,hbq24⟩:∃ b_:Bool,b_=((rd_T31 l0 a3).f0):=⟨_,rfl⟩
       replace H:(if bq24=true then (some (A9,A4)) else (some (A5,A4)))=some (r1,r2):=by rw [← hbq24] at H;exact H
       have Nbq24:=Aside0.mk hbq24;clear hbq24
       by_cases c25:bq24=true
       ·subst c25
        have H1:(some (A9,A4))=some (r1,r2):=by rw [if_pos rfl] at H;exact H
        clear H;have H:=H1;clear H1;simp only [Option.some.injEq,Prod.mk.injEq] at H;obtain ⟨rfl,rfl⟩:=H;have p102:0≤(a3:Int):=od;have q102:a3 < (l0.length:Int):=od;obtain ⟨ad102,e102,hx102_0,hx102_1,hx102_2⟩:=at_T31 (Kd.C_kept_now HR0.out HK.out) a3 p102 q102
        (try rw [← Nbq24.out] at hx102_0)
        cases e102;replace p102:=eq_true p102;replace q102:=eq_true q102;go_wp2_with (first|((with_reducible refine gate_callee (f:=68) rfl ?_);refine goesL_ (some 28) rfl rfl Tryz.func68 (by kernel_rfl) rfl #[.int .i64 ((rd_T31 l0 a3).f2)] rfl ml ?_;(with_reducible refine (spec_l01Pow2.calls k1 ((rd_T31 l0 a3).f2) A7 _ A11.out).mono ?_);rintro e w' ⟨rfl,⟨nd,rfl⟩⟩;refine ⟨_,rfl,?_⟩;have p108:0≤(a3:Int):=od;have q108:a3 < (l0.length:Int):=od;obtain ⟨ad108,e108,hx108_0,hx108_1,hx108_2⟩:=at_T31 (Kd.C_kept_now HR0.out HK.out) a3 p108 q108;(try rw [← Nbq24.out] at hx108_0);obtain rfl:ad102=ad108:=(by injection e108);replace p108:=eq_true p108;replace q108:=eq_true q108));go_ret;exact ⟨er,ra A2,tb HB,tk HK⟩
       ·replace c25:=Bool.eq_false_iff.mpr c25;subst c25
        have H1:(some (A5,A4))=some (r1,r2):=by rw [if_neg (show ¬ (false=true) by decide)] at H;exact H
        clear H;have H:=H1;clear H1;simp only [Option.some.injEq,Prod.mk.injEq] at H;obtain ⟨rfl,rfl⟩:=H;have p102:0≤(a3:Int):=od;have q102:a3 < (l0.length:Int):=od;obtain ⟨ad102,e102,hx102_0,hx102_1,hx102_2⟩:=at_T31 (Kd.C_kept_now HR0.out HK.out) a3 p102 q102
        (try rw [← Nbq24.out] at hx102_0)
        cases e102;replace p102:=eq_true p102;replace q102:=eq_true q102;go_wp2_with (first|((with_reducible refine gate_callee (f:=68) rfl ?_);refine goesL_ (some 28) rfl rfl Tryz.func68 (by kernel_rfl) rfl #[.int .i64 ((rd_T31 l0 a3).f2)] rfl ml ?_;(with_reducible refine (spec_l01Pow2.calls k1 ((rd_T31 l0 a3).f2) A7 _ A11.out).mono ?_);rintro e w' ⟨rfl,⟨nd,rfl⟩⟩;refine ⟨_,rfl,?_⟩;have p108:0≤(a3:Int):=od;have q108:a3 < (l0.length:Int):=od;obtain ⟨ad108,e108,hx108_0,hx108_1,hx108_2⟩:=at_T31 (Kd.C_kept_now HR0.out HK.out) a3 p108 q108;(try rw [← Nbq24.out] at hx108_0);obtain rfl:ad102=ad108:=(by injection e108);replace p108:=eq_true p108;replace q108:=eq_true q108));go_ret;exact ⟨er,ra A2,tb HB,tk HK⟩
     ·rw [if_neg c10] at H;exact absurd H (by simp)
    ·rw [if_neg c9] at H;exact absurd H (by simp)
def spec_HoldsFront.j0:Nat→List (S31)→List (S52)→Bool→Option (Int × Bool)
 | 0,_,_,_=>none
 | k + 1,x0,x1,x14=>if x14=true then (some (0,false)) else ((spec_l04Zeros.f k).bind fun A2=>((spec_l05Holds.f k x0 x1 A2 0).bind fun bt106=>(some (bt106.1,true))))
def spec_HoldsFront.f (k:Nat) (l0:List (S31)) (l1:List (S52)):Option (Int × Bool):=(spec_FrontOk.f k l0 l1).bind fun A8=>(if A8=true then ((spec_l05Bits.f k l0).bind fun A5=>(spec_HoldsFront.j0 k l0 l1 (decide (A5 > 12)))) else (spec_HoldsFront.j0 k l0 l1 true))
theorem spec_HoldsFront.calls (k:Nat) (A0:Option Addr) (c0:Nat) (l0:List (S31)) (A1:Option Addr) (c1:Nat) (l1:List (S52)) (r1:Int) (r2:Bool) (w:World) (hr0:Kd.C k31 w A0 l0.length l0) (hc0:l0.length≤c0) (hr1:Kd.C k52 w A1 l1.length l1) (hc1:l1.length≤c1) (h:spec_HoldsFront.f k l0 l1=some (r1,r2)) :
  Calls Tryz.prog 9 #[.slice A0 l0.length c0,.slice A1 l1.length c1] w fun e w'=>e = .returned (.tuple #[.int .i64 r1,.bool r2])∧Below w.heap.size w w':=by
 have HR0:=Aside0.mk hr0;have HC0:=Aside0.mk hc0;clear hr0 hc0;have HR1:=Aside0.mk hr1;have HC1:=Aside0.mk hc1;clear hr1 hc1;have HB:=Aside0.mk (Below.refl w.heap.size w);have H:((spec_FrontOk.f k l0 l1).bind fun A8=>(if A8=true then ((spec_l05Bits.f k l0).bind fun A5=>(spec_HoldsFront.j0 k l0 l1 (decide (A5 > 12)))) else (spec_HoldsFront.j0 k l0 l1 true)))=some (r1,r2):=h;clear h;have HC3:=Aside0.mk H;clear H
 go_enter Tryz.func9,Tryz.ntmps9
 go_upto_region 1 with (fail)
 go_cut [14] (fun v14 wc=>∃ (kq:Nat) (A7:Bool),v14 = .bool A7∧Aside0 (spec_HoldsFront.j0 kq l0 l1 A7=some (r1,r2))∧Aside0 (kq≤k)∧Aside0 (Below w.heap.size w wc))
 case first =>
  have H:=HC3.out;clear HC3;replace H:=ob H;obtain ⟨A8,A40,H⟩:=H
  try dsimp only at H
  have A4:=Aside0.mk A40;clear A40
  by_cases c5:A8=true
  ·subst c5
   have H1:((spec_l05Bits.f k l0).bind fun A5=>(spec_HoldsFront.j0 k l0 l1 (decide (A5 > 12))))=some (r1,r2):=by rw [if_pos rfl] at H;exact H
   clear H;have H:=H1;clear H1;replace H:=ob H;obtain ⟨A5,A60,H⟩:=H;replace H:(spec_HoldsFront.j0 k l0 l1 (decide (A5 > 12)))=some (r1,r2):=H;have A6:=Aside0.mk A60;clear A60;have H':=Aside0.mk H;clear H;go_wp2_with (first|((with_reducible refine gate_callee (f:=32) rfl ?_);refine goesL_ (some 8) rfl rfl Tryz.func32 (by kernel_rfl) rfl #[.slice A0 l0.length c0,.slice A1 l1.length c1] rfl ml ?_;(with_reducible refine (spec_FrontOk.calls k _ _ l0 _ _ l1 true _ ?side1 ?side2 ?side3 ?side4 A4.out).mono ?_);(case side1=>exact cw (Kd.C_below HR0.out HB.out));(case side2=>exact HC0.out);(case side3=>exact cw (Kd.C_below HR1.out HB.out));(case side4=>exact HC1.out);rintro e w7 ⟨rfl,hb⟩;refine ⟨_,rfl,?_⟩;replace HB:=Aside0.mk (below_step (tb HB) hb);(try clear hb);(try clear hb2);(try clear hk);(try clear hi))|(go_at_call 33;(try simp only [i64_w,i32_w]);(with_reducible refine (spec_l05Bits.calls k _ _ l0 A5 _ ?side1 ?side2 A6.out).mono ?_);(case side1=>exact cw (Kd.C_below HR0.out HB.out));(case side2=>exact HC0.out);rintro e w' ⟨rfl,⟨nd,rfl⟩⟩));go_meet
   case rel=>exact ⟨_,(decide (A5 > 12)),(by first|rfl|(simp;done)|(simp [*];done)),H',⟨by first|omega|exact Nat.le_refl _⟩,⟨by exact tb HB⟩⟩
  ·replace c5:=Bool.eq_false_iff.mpr c5;subst c5
   have H1:(spec_HoldsFront.j0 k l0 l1 true)=some (r1,r2):=by rw [if_neg (show ¬ (false=true) by decide)] at H;exact H
   clear H;have H:=H1;clear H1;have H':=Aside0.mk H;clear H;go_wp2_with (first|((with_reducible refine gate_callee (f:=32) rfl ?_);refine goesL_ (some 8) rfl rfl Tryz.func32 (by kernel_rfl) rfl #[.slice A0 l0.length c0,.slice A1 l1.length c1] rfl ml ?_;(with_reducible refine (spec_FrontOk.calls k _ _ l0 _ _ l1 false _ ?side1 ?side2 ?side3 ?side4 A4.out).mono ?_);(case side1=>exact cw (Kd.C_below HR0.out HB.out));(case side2=>exact HC0.out);(case side3=>exact cw (Kd.C_below HR1.out HB.out));(case side4=>exact HC1.out);rintro e w8 ⟨rfl,hb⟩;refine ⟨_,rfl,?_⟩;replace HB:=Aside0.mk (below_step (tb HB) hb);(try clear hb);(try clear hb2);(try clear hk);(try clear hi)));go_meet
   case rel=>exact ⟨_,(true),(by first|rfl|(simp;done)|(simp [*];done)),H',⟨by first|omega|exact Nat.le_refl _⟩,⟨by exact tb HB⟩⟩
 case rest =>
  clear HC3;(try clear c1);(try clear p2);(try clear c3);(try clear c5);obtain ⟨kq,A7,rfl,HA,HJ2,HB⟩:=hcut
  cases kq with
  | zero=>exact absurd HA.out (by simp [spec_HoldsFront.j0])
  | succ kj2 =>
   have H:=HA.out;clear HA;simp only [spec_HoldsFront.j0] at H
   by_cases c9:A7=true
   ·subst c9
    have H1:(some (0,false))=some (r1,r2):=by rw [if_pos rfl] at H;exact H
    clear H;have H:=H1;clear H1;simp only [Option.some.injEq,Prod.mk.injEq] at H;obtain ⟨rfl,rfl⟩:=H;go_wp2;go_ret2;exact ⟨er,tb HB⟩
   ·replace c9:=Bool.eq_false_iff.mpr c9;subst c9
    have H1:((spec_l04Zeros.f kj2).bind fun A2=>((spec_l05Holds.f kj2 l0 l1 A2 0).bind fun bt106=>(some (bt106.1,true))))=some (r1,r2):=by rw [if_neg (show ¬ (false=true) by decide)] at H;exact H
    clear H;have H:=H1;clear H1;replace H:=ob H;obtain ⟨A2,A100,H⟩:=H;replace H:((spec_l05Holds.f kj2 l0 l1 A2 0).bind fun bt106=>(some (bt106.1,true)))=some (r1,r2):=H;have A10:=Aside0.mk A100;clear A100;replace H:=ob H;obtain ⟨⟨Ab,t107⟩,A110,H⟩:=H;replace H:(some (Ab,true))=some (r1,r2):=H;have A11:=Aside0.mk A110;clear A110;simp only [Option.some.injEq,Prod.mk.injEq] at H;obtain ⟨rfl,rfl⟩:=H;go_wp2_with (first|((with_reducible refine gate_callee (f:=35) rfl ?_);refine goesL_ (some 17) rfl rfl Tryz.func35 (by kernel_rfl) rfl #[] rfl ml ?_;(with_reducible refine (spec_l04Zeros.calls kj2  A2 _ A10.out).mono ?_);rintro e w12 ⟨v104,rfl,ho0,hb⟩;refine ⟨_,rfl,?_⟩;have A3:=Aside0.mk (Kd.R_lower ho0 (below_size (tb HB)));replace HB:=Aside0.mk (below_step (tb HB) hb);(try clear hb);(try clear hb2);(try clear hk);(try clear hi);(try clear ho0);obtain ⟨A9,Aa,eo13⟩:=Kd.R_slice A3.out;subst eo13)|((with_reducible refine gate_callee (f:=34) rfl ?_);refine goesL_ (some 18) rfl rfl Tryz.func34 (by kernel_rfl) rfl #[.slice A0 l0.length c0,.slice A1 l1.length c1,.slice A9 A2.length Aa,.int .i64 0] rfl ml ?_;(with_reducible refine (spec_l05Holds.calls kj2 _ _ l0 _ _ l1 (fun k_=>some k_=(.slice A9 A2.length Aa:Value).ownBlock) (.slice A9 A2.length Aa) A2 0 Ab t107 w _ ?side1 ?side2 ?side3 ?side4 ?side5 ?side6 A11.out).mono ?_);(case side1=>exact tb HB);(case side2=>exact Kd.C_kept_came k31_heap HR0.out (tb HB) (fun k_ hs_=>(fun e_=>Kd.R_base A3.out k_ e_.symm) hs_));(case side3=>exact HC0.out);(case side4=>exact Kd.C_kept_came k52_heap HR1.out (tb HB) (fun k_ hs_=>(fun e_=>Kd.R_base A3.out k_ e_.symm) hs_));(case side5=>exact HC1.out);(case side6=>exact Kd.R_tight rfl A3.out);rintro e w14 ⟨rfl,hy0,hb,hkp⟩;refine ⟨_,rfl,?_⟩;replace A3:=Aside0.mk (Kd.R_reok rfl hy0 (fun k_ e_=>A3.out.1 k_ e_));replace HB:=Aside0.mk (hb);(try clear hb);(try clear hkp);(try clear hy0)));go_ret2;exact ⟨er,tb HB⟩
end Go.Proofs.YthipjoioicmcnaaGreat.G
