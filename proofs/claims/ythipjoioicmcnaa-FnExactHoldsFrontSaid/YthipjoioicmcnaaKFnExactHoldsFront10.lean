-- texts of this session, merged by a program of it (wip/gen/pack.py)
import Derived.Test.YthipjoioicmcnaaKFnExactHoldsFront1
import Derived.Test.YthipjoioicmcnaaKFnExactHoldsFront2
import Derived.Test.YthipjoioicmcnaaKFnExactHoldsFront9
import Derived.Test.YthipjoioicmcnaaKFnExactHoldsFront7
namespace Go.Proofs.Ythipjoioicmcnaa.G
open Go.Proofs.Ythipjoioicmcnaa.Sh
open Go.RowKit Go.Proofs.YthipjoioicmcnaaW.PrintWords Go.Proofs.YthipjoioicmcnaaW.PrintLast Go.Proofs.YthipjoioicmcnaaW.PrintMore
attribute [local go_sem] max2_int min2_int max_two min_two max_three min_three max_four min_four
set_option linter.unusedVariables false
set_option linter.unusedSimpArgs false
mutual
def spec_FrontOk.j0:Nat→List (S66)→List (S99)→Bool→Option (Bool)
 | 0,_,_,_=>none
 | k + 1,x0,x1,x21=>if x21=true then (some false) else ((spec_l04Zeros.f k).bind fun Aa=>(spec_FrontOk.l0 k x0 x1 Aa 0))
def spec_FrontOk.l0:Nat→List (S66)→List (S99)→List Int→Int→Option (Bool)
 | 0,_,_,_,_=>none
 | k + 1,x0,x1,x5,x6=>if x6 < (x0.length:Int) then (if 0≤x6 then ((spec_l01In.f ((rd_T66 x0 x6).f1) 0 7).bind fun Ad=>(if Ad=true then ((spec_l01In.f ((rd_T66 x0 x6).f2) 1 8).bind fun A9=>(if A9=true then (if 0≤((rd_T66 x0 x6).f1) then (if ((rd_T66 x0 x6).f1) < (x5.length:Int) then (if (rd x5 ((rd_T66 x0 x6).f1))=0 then (spec_FrontOk.l0 k x0 x1 (x5.set (((rd_T66 x0 x6).f1):Int).toNat ((rd_T66 x0 x6).f2)) (wrap64 (x6 + 1))) else (some false)) else (none)) else (none)) else (some false))) else (some false))) else (none)) else ((spec_l02Reach.f k x1).bind fun A8=>(spec_FrontOk.l1 k x1 x5 A8 0))
def spec_FrontOk.l1:Nat→List (S99)→List Int→List Bool→Int→Option (Bool)
 | 0,_,_,_,_=>none
 | k + 1,x1,x5,x7,x8=>if x8 < (x1.length:Int) then (if 0≤x8 then ((spec_l02Quant.f ((rd_T99 x1 x8).f0)).bind fun Ae=>(if Ae=true then (some false) else (if x8 < (x7.length:Int) then (if rdOf false x7 x8=true then (if ((rd_T99 x1 x8).f0)=1 then (if 0≤((rd_T99 x1 x8).f2) then (if ((rd_T99 x1 x8).f2) < (x5.length:Int) then (if (rd x5 ((rd_T99 x1 x8).f2))=((rd_T99 x1 x8).f1) then (spec_FrontOk.l1 k x1 x5 x7 (wrap64 (x8 + 1))) else (some false)) else (none)) else (none)) else (spec_FrontOk.l1 k x1 x5 x7 (wrap64 (x8 + 1)))) else (spec_FrontOk.l1 k x1 x5 x7 (wrap64 (x8 + 1)))) else (none)))) else (none)) else (some true)
end
def spec_FrontOk.f (k:Nat) (l0:List (S66)) (l1:List (S99)):Option (Bool):=(spec_TermOk.f k l1).bind fun Ac=>(if Ac=true then (if 0≤(wrap64 ((l1.length:Int) - 1)) then (if (wrap64 ((l1.length:Int) - 1)) < (l1.length:Int) then (spec_FrontOk.j0 k l0 l1 (((rd_T99 l1 (wrap64 ((l1.length:Int) - 1))).f1) != 1)) else (none)) else (none)) else (spec_FrontOk.j0 k l0 l1 true))
def spec_FrontOk.T9:Bool × List (List Nat × List Nat):=(true,[([],[]),([],[]),([],[]),([1,2],[1,2]),([3],[3]),([4],[4]),([],[]),([],[]),([6,7],[6,7]),([8],[8]),([9],[9]),([0,5,0,1,2,3,4,5,6,7,8,9,10],[0,5]),([11,10,0,1,2,3,4,5,6,7,8,9,10],[10,11])])
def spec_FrontOk.B9:List Nat:=[0,0,0,6,14,30,0,0,192,448,960,2047,4095]
theorem spec_FrontOk.tab9:rtab .any (opsOf Try.f81 9)=spec_FrontOk.T9:=by kernel_rfl
theorem spec_FrontOk.bits9:waitsOk spec_FrontOk.T9.2 spec_FrontOk.B9=true:=by kernel_rfl
def spec_FrontOk.T14:Bool × List (List Nat × List Nat):=(true,[([],[]),([],[]),([0,1],[0,1]),([2],[2]),([3],[3]),([4],[4]),([5,5],[5]),([6],[6]),([6],[6]),([7,8,6],[6,7,8]),([9,6],[6,9]),([10,6,6],[6,10]),([11],[11]),([11],[11]),([12,13,11],[11,12,13]),([14,11],[11,14]),([15,11],[11,15]),([16,11],[11,16]),([11,17,6],[6,11,17]),([18,11,6],[6,18]),([19],[19]),([19],[19]),([19],[19]),([21,22,19],[19,21,22]),([23,19],[19,23]),([24,19],[19,24]),([20,25,19],[19,20,25]),([26,19],[19,26]),([19],[19]),([19],[19]),([28,29,19],[19,28,29]),([30,19],[19,30]),([31,19],[19,31]),([27,32,19],[19,27,32]),([19,33,6],[6,19,33]),([6,34],[6,34])])
def spec_FrontOk.B14:List Nat:=[0,0,3,7,15,31,63,127,127,511,1023,2047,4095,4095,16383,32767,65535,131071,262143,524287,1048575,1048575,1048575,7340031,15728639,32505855,67108863,134217727,1048575,1048575,806354943,1880096767,4027580415,8589934591,17179869183,34359738367]
theorem spec_FrontOk.tab14:rtab .any (opsOf Try.f81 14)=spec_FrontOk.T14:=by kernel_rfl
theorem spec_FrontOk.bits14:waitsOk spec_FrontOk.T14.2 spec_FrontOk.B14=true:=by kernel_rfl
set_option maxHeartbeats 8000000 in
set_option maxRecDepth 100000 in
theorem spec_FrontOk.calls (k:Nat) (A0:Option Addr) (c0:Nat) (l0:List (S66)) (A1:Option Addr) (c1:Nat) (l1:List (S99)) (r:Bool) (w:World) (hr0:Kd.C k66 w A0 l0.length l0) (hc0:l0.length≤c0) (hr1:Kd.C k99 w A1 l1.length l1) (hc1:l1.length≤c1) (h:spec_FrontOk.f k l0 l1=some r) :
  Calls Try.prog 81 #[.slice A0 l0.length c0,.slice A1 l1.length c1] w fun e w'=>e = .returned (.bool r)∧Below w.heap.size w w':=by
 have HR0:=Aside0.mk hr0;have HC0:=Aside0.mk hc0;clear hr0 hc0;have HR1:=Aside0.mk hr1;have HC1:=Aside0.mk hc1;clear hr1 hc1;have HB:=Aside0.mk (Below.refl w.heap.size w);have H:((spec_TermOk.f k l1).bind fun Ac=>(if Ac=true then (if 0≤(wrap64 ((l1.length:Int) - 1)) then (if (wrap64 ((l1.length:Int) - 1)) < (l1.length:Int) then (spec_FrontOk.j0 k l0 l1 (((rd_T99 l1 (wrap64 ((l1.length:Int) - 1))).f1) != 1)) else (none)) else (none)) else (spec_FrontOk.j0 k l0 l1 true)))=some r:=h;clear h;have HC3:=Aside0.mk H;clear H
 go_enter Try.func81,Try.ntmps81
 go_upto_region 1 with (fail)
 go_cut [21] (fun v21 wc=>∃ (kq:Nat) (Ab:Bool),v21 = .bool Ab∧Aside0 (spec_FrontOk.j0 kq l0 l1 Ab=some r)∧Aside0 (kq≤k)∧Aside0 (Below w.heap.size w wc))
 case first =>
  have H:=HC3.out;clear HC3;replace H:=ob H;obtain ⟨Ac,A40,H⟩:=H;replace H:(if Ac=true then (if 0≤(wrap64 ((l1.length:Int) - 1)) then (if (wrap64 ((l1.length:Int) - 1)) < (l1.length:Int) then (spec_FrontOk.j0 k l0 l1 (((rd_T99 l1 (wrap64 ((l1.length:Int) - 1))).f1) != 1)) else (none)) else (none)) else (spec_FrontOk.j0 k l0 l1 true))=some r:=H;have A4:=Aside0.mk A40;clear A40
  by_cases c5:Ac=true
  ·subst c5
   have H1:(if 0≤(wrap64 ((l1.length:Int) - 1)) then (if (wrap64 ((l1.length:Int) - 1)) < (l1.length:Int) then (spec_FrontOk.j0 k l0 l1 (((rd_T99 l1 (wrap64 ((l1.length:Int) - 1))).f1) != 1)) else (none)) else (none))=some r:=by rw [if_pos rfl] at H;exact H
   clear H;have H:=H1;clear H1;obtain ⟨ji6,hji6⟩:∃ j_:Int,(wrap64 ((l1.length:Int) - 1))=j_:=⟨_,rfl⟩
   replace H:(if 0≤(ji6) then (if (ji6) < (l1.length:Int) then (spec_FrontOk.j0 k l0 l1 (((rd_T99 l1 (ji6)).f1) != 1)) else (none)) else (none))=some r:=by first|(rw [hji6] at H;exact H)|(simp only [hji6] at H ⊢;exact H)
   (try rw [hji6] at A4)
   have hji6w:(IntKind.i64.wrap ((l1.length:Int) - 1))=ji6:=(i64_w _).trans hji6
   by_cases c7:0≤(ji6)
   ·rw [if_pos c7] at H;have c7b0:decide (0≤(ji6))=true:=decide_eq_true c7;clear c7;(first|rw [c7b0]|(simp only [i64_w,i32_w];rw [c7b0])|skip)
    by_cases c8:(ji6) < (l1.length:Int)
    ·rw [if_pos c8] at H;have c8b0:decide ((ji6) < (l1.length:Int))=true:=decide_eq_true c8;clear c8;have H':=Aside0.mk H;clear H;go_wp2_with (first|((with_reducible refine gate_callee (f:=104) rfl ?_);refine goesL_ (some 10) rfl rfl Try.func104 (by kernel_rfl) rfl #[.slice A1 l1.length c1] rfl ml ?_;(with_reducible refine (spec_TermOk.calls k _ _ l1 true _ ?side1 ?side2 A4.out).mono ?_);(case side1=>exact cw (Kd.C_below HR1.out HB.out));(case side2=>exact HC1.out);rintro e w9 ⟨rfl,hb⟩;refine ⟨_,rfl,?_⟩;replace HB:=Aside0.mk (below_step (tb HB) hb);(try clear hb);(try clear hb2);(try clear hk);(try clear hi);have p102:0≤((ji6):Int):=od;have q102:(ji6) < (l1.length:Int):=od;obtain ⟨ad102,e102,hx102_0,hx102_1,hx102_2,hx102_3,hx102_4,hx102_5⟩:=at_T99 HR1.out (ji6) p102 q102;cases e102;replace hx102_0:=ct HB hx102_0;replace hx102_1:=ct HB hx102_1;replace hx102_2:=ct HB hx102_2;replace hx102_3:=ct HB hx102_3;replace hx102_4:=ct HB hx102_4;replace hx102_5:=ct HB hx102_5;replace p102:=eq_true p102;replace q102:=eq_true q102));go_meet
     case rel=>exact ⟨_,((((rd_T99 l1 (ji6)).f1) != 1)),(by first|rfl|(simp;done)|(simp only [← hji6] <;> (first|rfl|simp))|(simp [*];done)),(by first|exact H'|(rw [hji6];exact H')),⟨by first|omega|exact Nat.le_refl _⟩,⟨by exact tb HB⟩⟩
    ·rw [if_neg c8] at H;exact absurd H (by simp)
   ·rw [if_neg c7] at H;exact absurd H (by simp)
  ·replace c5:=Bool.eq_false_iff.mpr c5;subst c5
   have H1:(spec_FrontOk.j0 k l0 l1 true)=some r:=by rw [if_neg (show ¬ (false=true) by decide)] at H;exact H
   clear H;have H:=H1;clear H1;have H':=Aside0.mk H;clear H;go_wp2_with (first|((with_reducible refine gate_callee (f:=104) rfl ?_);refine goesL_ (some 10) rfl rfl Try.func104 (by kernel_rfl) rfl #[.slice A1 l1.length c1] rfl ml ?_;(with_reducible refine (spec_TermOk.calls k _ _ l1 false _ ?side1 ?side2 A4.out).mono ?_);(case side1=>exact cw (Kd.C_below HR1.out HB.out));(case side2=>exact HC1.out);rintro e w10 ⟨rfl,hb⟩;refine ⟨_,rfl,?_⟩;replace HB:=Aside0.mk (below_step (tb HB) hb);(try clear hb);(try clear hb2);(try clear hk);(try clear hi)));go_meet
   case rel=>exact ⟨_,(true),(by first|rfl|(simp;done)|(simp [*];done)),(by first|exact H'|(rw [hji6];exact H')),⟨by first|omega|exact Nat.le_refl _⟩,⟨by exact tb HB⟩⟩
 case rest =>
  clear HC3;(try clear c1);(try clear p1);(try clear q1);(try clear hx1);(try clear p2);(try clear c5);(try clear p6);(try clear c7);(try clear c7b0);(try clear c8);(try clear c8b0);(try clear c10);(try clear p10);(try clear q10);(try clear hx10);(try clear hx102_0);(try clear hx102_1);(try clear hx102_2);(try clear hx102_3);(try clear hx102_4);(try clear hx102_5);(try clear p102);(try clear q102);obtain ⟨kq,Ab,rfl,HA,HJ2,HB⟩:=hcut
  cases kq with
  | zero=>exact absurd HA.out (by simp [spec_FrontOk.j0])
  | succ kj2 =>
   have H:=HA.out;clear HA;simp only [spec_FrontOk.j0] at H
   by_cases c11:Ab=true
   ·subst c11
    have H1:(some false)=some r:=by rw [if_pos rfl] at H;exact H
    clear H;have H:=H1;clear H1;obtain rfl:=os H;go_wp2;go_ret;exact ⟨er,tb HB⟩
   ·replace c11:=Bool.eq_false_iff.mpr c11;subst c11
    have H1:((spec_l04Zeros.f kj2).bind fun Aa=>(spec_FrontOk.l0 kj2 l0 l1 Aa 0))=some r:=by rw [if_neg (show ¬ (false=true) by decide)] at H;exact H
    clear H;have H:=H1;clear H1;replace H:=ob H;obtain ⟨Aa,A120,H⟩:=H;replace H:(spec_FrontOk.l0 kj2 l0 l1 Aa 0)=some r:=H;have A12:=Aside0.mk A120;clear A120;have H':=Aside0.mk H;clear H;go_wp2_with (first|((with_reducible refine gate_callee (f:=82) rfl ?_);refine goesL_ (some 22) rfl rfl Try.func82 (by kernel_rfl) rfl #[] rfl ml ?_;(with_reducible refine (spec_l04Zeros.calls kj2  Aa _ A12.out).mono ?_);rintro e w13 ⟨v104,rfl,ho0,hb⟩;refine ⟨_,rfl,?_⟩;have Af:=Aside0.mk (Kd.R_lower ho0 (below_size (tb HB)));replace HB:=Aside0.mk (below_step (tb HB) hb);(try clear hb);(try clear hb2);(try clear hk);(try clear hi);(try clear ho0)))
    go_loopg [6] kj2 (fun kq v6 w'=>∃ (A5:List Int) (A3:Int),v6 = .int .i64 A3∧Aside0 (spec_FrontOk.l0 kq l0 l1 A5 A3=some r)∧Aside0 (kq≤kj2)∧Aside0 (Kd.R (Kd.int .i64) 3 w' w.heap.size (fun _=>True) v104 A5)∧Aside0 (Below w.heap.size w w'))
    case atStart=>exact ⟨(Aa),(0),(by first|rfl|(simp;done)|(simp [*];done)),H',⟨Nat.le_refl _⟩,⟨ra Af⟩,⟨by exact tb HB⟩⟩
    case round =>
     clear H';(try clear c1);(try clear p1);(try clear q1);(try clear hx1);(try clear p2);(try clear c5);(try clear p6);(try clear c7);(try clear c7b0);(try clear c8);(try clear c8b0);(try clear c10);(try clear p10);(try clear q10);(try clear hx10);(try clear c11);(try clear hx102_0);(try clear hx102_1);(try clear hx102_2);(try clear hx102_3);(try clear hx102_4);(try clear hx102_5);(try clear p1);(try clear p10);(try clear p102);(try clear p2);(try clear p6);(try clear q1);(try clear q10);(try clear q102);obtain ⟨A5,A3,rfl,HA,HK2,A6,HB⟩:=hrel
     cases gk with
     | zero=>exact absurd HA.out (by simp [spec_FrontOk.l0])
     | succ k2 =>
      have H:=HA.out;clear HA;simp only [spec_FrontOk.l0] at H
      by_cases c14:A3 < (l0.length:Int)
      ·rw [if_pos c14] at H;have c14b0:decide (A3 < (l0.length:Int))=true:=decide_eq_true c14;clear c14
       by_cases c15:0≤A3
       ·rw [if_pos c15] at H;have c15b0:decide (0≤A3)=true:=decide_eq_true c15;clear c15;replace H:=ob H;obtain ⟨Ad,A160,H⟩:=H;replace H:(if Ad=true then ((spec_l01In.f ((rd_T66 l0 A3).f2) 1 8).bind fun A9=>(if A9=true then (if 0≤((rd_T66 l0 A3).f1) then (if ((rd_T66 l0 A3).f1) < (A5.length:Int) then (if (rd A5 ((rd_T66 l0 A3).f1))=0 then (spec_FrontOk.l0 k2 l0 l1 (A5.set (((rd_T66 l0 A3).f1):Int).toNat ((rd_T66 l0 A3).f2)) (wrap64 (A3 + 1))) else (some false)) else (none)) else (none)) else (some false))) else (some false))=some r:=H;have A16:=Aside0.mk A160;clear A160
        by_cases c17:Ad=true
        ·subst c17
         have H1:((spec_l01In.f ((rd_T66 l0 A3).f2) 1 8).bind fun A9=>(if A9=true then (if 0≤((rd_T66 l0 A3).f1) then (if ((rd_T66 l0 A3).f1) < (A5.length:Int) then (if (rd A5 ((rd_T66 l0 A3).f1))=0 then (spec_FrontOk.l0 k2 l0 l1 (A5.set (((rd_T66 l0 A3).f1):Int).toNat ((rd_T66 l0 A3).f2)) (wrap64 (A3 + 1))) else (some false)) else (none)) else (none)) else (some false)))=some r:=by rw [if_pos rfl] at H;exact H
         clear H;have H:=H1;clear H1;replace H:=ob H;obtain ⟨A9,A180,H⟩:=H;replace H:(if A9=true then (if 0≤((rd_T66 l0 A3).f1) then (if ((rd_T66 l0 A3).f1) < (A5.length:Int) then (if (rd A5 ((rd_T66 l0 A3).f1))=0 then (spec_FrontOk.l0 k2 l0 l1 (A5.set (((rd_T66 l0 A3).f1):Int).toNat ((rd_T66 l0 A3).f2)) (wrap64 (A3 + 1))) else (some false)) else (none)) else (none)) else (some false))=some r:=H;have A18:=Aside0.mk A180;clear A180
         by_cases c19:A9=true
         ·subst c19
          have H1:(if 0≤((rd_T66 l0 A3).f1) then (if ((rd_T66 l0 A3).f1) < (A5.length:Int) then (if (rd A5 ((rd_T66 l0 A3).f1))=0 then (spec_FrontOk.l0 k2 l0 l1 (A5.set (((rd_T66 l0 A3).f1):Int).toNat ((rd_T66 l0 A3).f2)) (wrap64 (A3 + 1))) else (some false)) else (none)) else (none))=some r:=by rw [if_pos rfl] at H;exact H
          clear H;have H:=H1;clear H1
          by_cases c20:0≤((rd_T66 l0 A3).f1)
          ·rw [if_pos c20] at H;have c20b0:decide (0≤((rd_T66 l0 A3).f1))=true:=decide_eq_true c20;clear c20
           by_cases c21:((rd_T66 l0 A3).f1) < (A5.length:Int)
           ·rw [if_pos c21] at H;have c21b0:decide (((rd_T66 l0 A3).f1) < (A5.length:Int))=true:=decide_eq_true c21;clear c21
            by_cases c22:(rd A5 ((rd_T66 l0 A3).f1))=0
            ·rw [if_pos c22] at H;have c22b0:((rd A5 ((rd_T66 l0 A3).f1)) == 0)=true:=beq_iff_eq.mpr c22;have c22b1:((rd A5 ((rd_T66 l0 A3).f1)) != 0)=false:=bne_eq_false_iff_eq.mpr c22;clear c22;obtain ⟨y114,hy114⟩:∃ y_:List Int,y_=(A5.set (((rd_T66 l0 A3).f1):Int).toNat ((rd_T66 l0 A3).f2)):=⟨_,rfl⟩
             replace H:(spec_FrontOk.l0 k2 l0 l1 y114 (wrap64 (A3 + 1)))=some r:=by first|(rw [hy114];with_reducible exact H)|(have H2_:=(Option.bind_some _ _).symm.trans H;rw [hy114];with_reducible exact H2_)|(have H2_:=(Option.bind_some _ _).symm.trans H;with_reducible exact H2_)|with_reducible exact H|(rw [hy114];exact H)|exact H
             have Ny114:=Aside0.mk hy114;clear hy114;have H':=Aside0.mk H;clear H;have p106:0≤(A3:Int):=od;have q106:A3 < (l0.length:Int):=od;obtain ⟨ad106,e106,hx106_0,hx106_1,hx106_2⟩:=at_T66 HR0.out A3 p106 q106;cases e106;replace hx106_0:=ct HB hx106_0;replace hx106_1:=ct HB hx106_1;replace hx106_2:=ct HB hx106_2;replace p106:=eq_true p106;replace q106:=eq_true q106
             try go_wp2_with (first|((with_reducible refine gate_callee (f:=69) rfl ?_);refine goesL_ (some 34) rfl rfl Try.func69 (by kernel_rfl) rfl #[.int .i64 ((rd_T66 l0 A3).f1),.int .i64 0,.int .i64 7] rfl ml ?_;(with_reducible refine (spec_l01In.calls ((rd_T66 l0 A3).f1) 0 7 true _ A16.out).mono ?_);rintro e w' ⟨rfl,⟨nd,rfl⟩⟩;refine ⟨_,rfl,?_⟩;(try (rw [drewN_self wr];generalize hq_:World.drewN wr _=wr;have n0_:Aside0 (Kd.R (Kd.int .i64) 3 wr w.heap.size (fun _=>True) v104 A5):=⟨by rw [← hq_];exact (ra A6)⟩;have n1_:Aside0 (Below w.heap.size w wr):=⟨by rw [← hq_];exact (tb HB)⟩;clear A6 HB hq_;have A6:=n0_;have HB:=n1_;clear n0_ n1_));have p108:0≤(A3:Int):=od;have q108:A3 < (l0.length:Int):=od;obtain ⟨ad108,e108,hx108_0,hx108_1,hx108_2⟩:=at_T66 HR0.out A3 p108 q108;obtain rfl:ad106=ad108:=(by injection e108);replace hx108_0:=ct HB hx108_0;replace hx108_1:=ct HB hx108_1;replace hx108_2:=ct HB hx108_2;replace p108:=eq_true p108;replace q108:=eq_true q108)|(go_at_call 69;(try simp only [i64_w,i32_w]);(with_reducible refine (spec_l01In.calls ((rd_T66 l0 A3).f2) 1 8 true _ A18.out).mono ?_);rintro e w' ⟨rfl,⟨nd,rfl⟩⟩;(try (rw [drewN_self wr];generalize hq_:World.drewN wr _=wr;have n0_:Aside0 (Kd.R (Kd.int .i64) 3 wr w.heap.size (fun _=>True) v104 A5):=⟨by rw [← hq_];exact (ra A6)⟩;have n1_:Aside0 (Below w.heap.size w wr):=⟨by rw [← hq_];exact (tb HB)⟩;clear A6 HB hq_;have A6:=n0_;have HB:=n1_;clear n0_ n1_));have p110:0≤(A3:Int):=od;have q110:A3 < (l0.length:Int):=od;obtain ⟨ad110,e110,hx110_0,hx110_1,hx110_2⟩:=at_T66 HR0.out A3 p110 q110;obtain rfl:ad106=ad110:=(by injection e110);replace hx110_0:=ct HB hx110_0;replace hx110_1:=ct HB hx110_1;replace hx110_2:=ct HB hx110_2;replace p110:=eq_true p110;replace q110:=eq_true q110;obtain ⟨Ao24,co24,eo24⟩:=Kd.R_slice A6.out;subst eo24;have p111:0≤(((rd_T66 l0 A3).f1):Int):=od;have q111:((rd_T66 l0 A3).f1) < (A5.length:Int):=od;obtain ⟨ad111,e111,hx111_0⟩:=Kd.at_int (Kd.R_reads' A6.out).2.2 ((rd_T66 l0 A3).f1) p111 q111;cases e111;replace p111:=eq_true p111;replace q111:=eq_true q111))
             have n0_:=Aside0.mk (Kd.R_drew A6.out);have n1_:=Aside0.mk (below_drew1 HB.out);clear A6;clear HB;have A6:=n0_;have HB:=n1_;clear n0_ n1_;have p112:0≤(A3:Int):=od;have q112:A3 < (l0.length:Int):=od;obtain ⟨ad112,e112,hx112_0,hx112_1,hx112_2⟩:=at_T66 HR0.out A3 p112 q112;have hw112_2:=hx112_2;have hw112_1:=hx112_1;have hw112_0:=hx112_0;obtain rfl:ad106=ad112:=(by injection e112);replace hx112_0:=ct HB hx112_0;replace hx112_1:=ct HB hx112_1;replace hx112_2:=ct HB hx112_2;replace p112:=eq_true p112;replace q112:=eq_true q112;have p113:0≤(A3:Int):=od;have q113:A3 < (l0.length:Int):=od;obtain ⟨ad113,e113,hx113_0,hx113_1,hx113_2⟩:=at_T66 HR0.out A3 p113 q113;have hw113_2:=hx113_2;have hw113_1:=hx113_1;have hw113_0:=hx113_0;obtain rfl:ad106=ad113:=(by injection e113);replace hx113_0:=ct HB hx113_0;replace hx113_1:=ct HB hx113_1;replace hx113_2:=ct HB hx113_2;replace p113:=eq_true p113;replace q113:=eq_true q113;have p23:0≤(((rd_T66 l0 A3).f1):Int):=od;have q23:(((rd_T66 l0 A3).f1):Int) < ((A5.length:Int):Int):=od;obtain ⟨go23,co23,eo23,Ag,gl23,cl23,HG23⟩:=Kd.R_form A6.out (by omega);(first|cases eo23|(injection eo23 with ea_ en_ ec_;(first|subst ea_|(injection ea_ with ea_;subst ea_));subst ec_;clear en_));have GB23:=Aside0.mk Ag;have GG23:=Aside0.mk HG23;clear Ag gl23 HG23;(first|simp only [add_plain] at hx111_0|skip);obtain ⟨hx23_0,hf23_0⟩:=Kd.R_celln 0 A6.out (((rd_T66 l0 A3).f1):Int) p23 q23;replace p23:=eq_true p23;replace q23:=eq_true q23;have HP26:=Kd.R_putn A6.out (((rd_T66 l0 A3).f1):Int) ((rd_T66 l0 A3).f2);rw [← Ny114.out] at HP26;have HQ26:=Aside0.mk HP26;clear HP26;refine start_ (n:=13) (S:=fun w'=>w'.cell? (ad106.add ((A3).toNat * 3))=some (.bool ((rd_T66 l0 A3).f0))∧w'.cell? ⟨(ad106.add ((A3).toNat * 3)).block,(ad106.add ((A3).toNat * 3)).off + 1,none⟩=some (.int .i64 ((rd_T66 l0 A3).f1))∧w'.cell? ⟨(ad106.add ((A3).toNat * 3)).block,(ad106.add ((A3).toNat * 3)).off + 2,none⟩=some (.int .i64 ((rd_T66 l0 A3).f2))∧w'.cell? (ad106.add ((A3).toNat * 3))=some (.bool ((rd_T66 l0 A3).f0))∧w'.cell? ⟨(ad106.add ((A3).toNat * 3)).block,(ad106.add ((A3).toNat * 3)).off + 1,none⟩=some (.int .i64 ((rd_T66 l0 A3).f1))∧w'.cell? ⟨(ad106.add ((A3).toNat * 3)).block,(ad106.add ((A3).toNat * 3)).off + 2,none⟩=some (.int .i64 ((rd_T66 l0 A3).f2))) (ds:=[12]) (tf 0 13) (by kernel_rfl) rfl rfl ⟨(ct HB hw112_0 :),(ct HB hw112_1 :),(ct HB hw112_2 :),(ct HB hw113_0 :),(ct HB hw113_1 :),(ct HB hw113_2 :)⟩ (fun hHeld=>?_);refine with_tabW spec_FrontOk.tab9 spec_FrontOk.bits9 (fun HT_ HW_=>?_);generalize wr.drew=w25 at A6 HB GG23 HQ26 hf23_0 hx111_0 hx112_0 hx112_1 hx112_2 hx113_0 hx113_1 hx113_2 hx23_0 hHeld ⊢;refine pure_ (i:=0) (N:=some 56) (v:=?_) (a':=?_) (tf 1 12) rfl rfl (any_of HT_.out (by kernel_rfl)) (fun _ _ _ h=>h) (Or.inl ⟨by rfl,?_⟩) ?_ ?_;rotate_left
             ·intro w';go_simp;with_reducible rfl
             rotate_left
             ·simp only [Act.put,s1,s2,s3,i64_w,i32_w];rfl
             refine pure_ (i:=1) (N:=some 57) (v:=?_) (a':=?_) (tf 2 11) rfl rfl (any_of HT_.out (by kernel_rfl)) (fun _ _ _ h=>h) (Or.inl ⟨by rfl,?_⟩) ?_ ?_;rotate_left
             ·intro w';go_simp;with_reducible rfl
             rotate_left
             ·simp only [Act.put,s1,s2,s3,i64_w,i32_w];rfl
             refine pure_ (i:=2) (N:=some 58) (v:=?_) (a':=?_) (tf 3 10) rfl rfl (any_of HT_.out (by kernel_rfl)) (fun _ _ _ h=>h) (Or.inl ⟨by rfl,?_⟩) ?_ ?_;rotate_left
             ·intro w';go_simp;with_reducible rfl
             rotate_left
             ·simp only [Act.put,s1,s2,s3,i64_w,i32_w];rfl
             refine pure_ (i:=3) (N:=some 59) (v:=?_) (a':=?_) (tf 4 9) rfl rfl (any_of HT_.out (by kernel_rfl)) (fun _ _ _ h=>h) (Or.inl ⟨by rfl,?_⟩) ?_ ?_;rotate_left
             ·intro w';go_simp;with_reducible rfl
             rotate_left
             ·simp only [Act.put,s1,s2,s3,i64_w,i32_w];rfl
             refine pure_ (i:=4) (N:=some 60) (v:=?_) (a':=?_) (tf 5 8) rfl rfl (any_of HT_.out (by kernel_rfl)) (fun _ _ _ h=>h) (Or.inl ⟨by rfl,?_⟩) ?_ ?_;rotate_left
             ·intro w';go_simp;with_reducible rfl
             rotate_left
             ·simp only [Act.put,s1,s2,s3,i64_w,i32_w];rfl
             refine pure_ (i:=6) (N:=some 62) (v:=?_) (a':=?_) #[true,true,true,true,true,false,true,false,false,false,false,false,false] rfl rfl (any_of HT_.out (by kernel_rfl)) (fun _ _ _ h=>h) (Or.inl ⟨by rfl,?_⟩) ?_ ?_;rotate_left
             ·intro w';go_simp;with_reducible rfl
             rotate_left
             ·simp only [Act.put,s1,s2,s3,i64_w,i32_w];rfl
             refine pure_ (i:=7) (N:=some 63) (v:=?_) (a':=?_) #[true,true,true,true,true,false,true,true,false,false,false,false,false] rfl rfl (any_of HT_.out (by kernel_rfl)) (fun _ _ _ h=>h) (Or.inl ⟨by rfl,?_⟩) ?_ ?_;rotate_left
             ·intro w';go_simp;with_reducible rfl
             rotate_left
             ·simp only [Act.put,s1,s2,s3,i64_w,i32_w];rfl
             refine pure_ (i:=8) (N:=some 64) (v:=?_) (a':=?_) #[true,true,true,true,true,false,true,true,true,false,false,false,false] rfl rfl (any_of HT_.out (by kernel_rfl)) (fun _ _ _ h=>h) (Or.inl ⟨by rfl,?_⟩) ?_ ?_;rotate_left
             ·intro w';go_simp;with_reducible rfl
             rotate_left
             ·simp only [Act.put,s1,s2,s3,i64_w,i32_w];rfl
             refine pure_ (i:=9) (N:=some 65) (v:=?_) (a':=?_) #[true,true,true,true,true,false,true,true,true,true,false,false,false] rfl rfl (any_of HT_.out (by kernel_rfl)) (fun _ _ _ h=>h) (Or.inl ⟨by rfl,?_⟩) ?_ ?_;rotate_left
             ·intro w';go_simp;with_reducible rfl
             rotate_left
             ·simp only [Act.put,s1,s2,s3,i64_w,i32_w];rfl
             refine take_ (i:=5) (N:=some 61) (v:=?_) (a':=?_) (tf 10 3) rfl rfl (take_ofW HT_.out HW_.out (by kernel_rfl)) (fun _ _ _ h=>h) (Or.inl ⟨by rfl,?_⟩) hHeld ?_ ?_;rotate_left
             ·rintro w' ⟨s0,s1,s2,s3,s4,s5⟩;go_simp;with_reducible rfl
             rotate_left
             ·simp only [Act.put,s1,s2,s3,i64_w,i32_w];rfl
             refine take_ (i:=10) (N:=some 66) (v:=?_) (a':=?_) (tf 11 2) rfl rfl (take_ofW HT_.out HW_.out (by kernel_rfl)) (fun _ _ _ h=>h) (Or.inl ⟨by rfl,?_⟩) hHeld ?_ ?_;rotate_left
             ·rintro w' ⟨s0,s1,s2,s3,s4,s5⟩;go_simp;with_reducible rfl
             rotate_left
             ·simp only [Act.put,s1,s2,s3,i64_w,i32_w];rfl
             refine pure_ (i:=11) (N:=some 67) (v:=?_) (a':=?_) (tf 12 1) rfl rfl (any_of HT_.out (by kernel_rfl)) (fun _ _ _ h=>h) (Or.inl ⟨by rfl,?_⟩) ?_ ?_;rotate_left
             ·intro w';go_simp;with_reducible rfl
             rotate_left
             ·simp only [Act.put,s1,s2,s3,i64_w,i32_w];rfl
             refine last_ (i:=12) (N:=none) (tf 13 0) rfl rfl (one_of HT_.out (by kernel_rfl)) (by decide) (fun K hK=>?_);refine skip_ (w1:=?_) (by rfl) rfl ?_ ?_;rotate_left
             ·go_simp;rfl
             refine hK.out _ _ ?_;clear hK K;refine done_ (done_of HT_.out (by kernel_rfl)) ?_
             try go_wp2
             go_roundg k2
             case measure=>have:=HJ2.out;have:=HK2.out;omega
             case rel=>exact ⟨(y114),(wrap64 (A3 + 1)),(by first|rfl|(simp;done)|(simp [*];done)),(by first|exact H'|(rw [hji6];exact H')),⟨by have:=HJ2.out;have:=HK2.out;omega⟩,⟨ra HQ26⟩,⟨by repeat (first|(with_reducible first|exact HB.out|apply below_alloc|apply pw_below_drewN|apply below_drew1|refine below_set ?_ GB23.out)|exact HB.out)⟩⟩
            ·rw [if_neg c22] at H;have c22b0:((rd A5 ((rd_T66 l0 A3).f1)) == 0)=false:=beq_eq_false_iff_ne.mpr c22;have c22b1:((rd A5 ((rd_T66 l0 A3).f1)) != 0)=true:=bne_iff_ne.mpr c22;obtain rfl:=os H;have p106:0≤(A3:Int):=od;have q106:A3 < (l0.length:Int):=od;obtain ⟨ad106,e106,hx106_0,hx106_1,hx106_2⟩:=at_T66 HR0.out A3 p106 q106;cases e106;replace hx106_0:=ct HB hx106_0;replace hx106_1:=ct HB hx106_1;replace hx106_2:=ct HB hx106_2;replace p106:=eq_true p106;replace q106:=eq_true q106;go_wp2_with (first|((with_reducible refine gate_callee (f:=69) rfl ?_);refine goesL_ (some 34) rfl rfl Try.func69 (by kernel_rfl) rfl #[.int .i64 ((rd_T66 l0 A3).f1),.int .i64 0,.int .i64 7] rfl ml ?_;(with_reducible refine (spec_l01In.calls ((rd_T66 l0 A3).f1) 0 7 true _ A16.out).mono ?_);rintro e w' ⟨rfl,⟨nd,rfl⟩⟩;refine ⟨_,rfl,?_⟩;have p108:0≤(A3:Int):=od;have q108:A3 < (l0.length:Int):=od;obtain ⟨ad108,e108,hx108_0,hx108_1,hx108_2⟩:=at_T66 HR0.out A3 p108 q108;obtain rfl:ad106=ad108:=(by injection e108);replace hx108_0:=ct HB hx108_0;replace hx108_1:=ct HB hx108_1;replace hx108_2:=ct HB hx108_2;replace p108:=eq_true p108;replace q108:=eq_true q108)|(go_at_call 69;(try simp only [i64_w,i32_w]);(with_reducible refine (spec_l01In.calls ((rd_T66 l0 A3).f2) 1 8 true _ A18.out).mono ?_);rintro e w' ⟨rfl,⟨nd,rfl⟩⟩;have p110:0≤(A3:Int):=od;have q110:A3 < (l0.length:Int):=od;obtain ⟨ad110,e110,hx110_0,hx110_1,hx110_2⟩:=at_T66 HR0.out A3 p110 q110;obtain rfl:ad106=ad110:=(by injection e110);replace hx110_0:=ct HB hx110_0;replace hx110_1:=ct HB hx110_1;replace hx110_2:=ct HB hx110_2;replace p110:=eq_true p110;replace q110:=eq_true q110;obtain ⟨Ao27,co27,eo27⟩:=Kd.R_slice A6.out;subst eo27;have p111:0≤(((rd_T66 l0 A3).f1):Int):=od;have q111:((rd_T66 l0 A3).f1) < (A5.length:Int):=od;obtain ⟨ad111,e111,hx111_0⟩:=Kd.at_int (Kd.R_reads' A6.out).2.2 ((rd_T66 l0 A3).f1) p111 q111;cases e111;replace p111:=eq_true p111;replace q111:=eq_true q111));go_ret;exact ⟨er,tb HB⟩
           ·rw [if_neg c21] at H;exact absurd H (by simp)
          ·rw [if_neg c20] at H;exact absurd H (by simp)
         ·replace c19:=Bool.eq_false_iff.mpr c19;subst c19
          have H1:(some false)=some r:=by rw [if_neg (show ¬ (false=true) by decide)] at H;exact H
          clear H;have H:=H1;clear H1;obtain rfl:=os H;have p106:0≤(A3:Int):=od;have q106:A3 < (l0.length:Int):=od;obtain ⟨ad106,e106,hx106_0,hx106_1,hx106_2⟩:=at_T66 HR0.out A3 p106 q106;cases e106;replace hx106_0:=ct HB hx106_0;replace hx106_1:=ct HB hx106_1;replace hx106_2:=ct HB hx106_2;replace p106:=eq_true p106;replace q106:=eq_true q106;go_wp2_with (first|((with_reducible refine gate_callee (f:=69) rfl ?_);refine goesL_ (some 34) rfl rfl Try.func69 (by kernel_rfl) rfl #[.int .i64 ((rd_T66 l0 A3).f1),.int .i64 0,.int .i64 7] rfl ml ?_;(with_reducible refine (spec_l01In.calls ((rd_T66 l0 A3).f1) 0 7 true _ A16.out).mono ?_);rintro e w' ⟨rfl,⟨nd,rfl⟩⟩;refine ⟨_,rfl,?_⟩;have p108:0≤(A3:Int):=od;have q108:A3 < (l0.length:Int):=od;obtain ⟨ad108,e108,hx108_0,hx108_1,hx108_2⟩:=at_T66 HR0.out A3 p108 q108;obtain rfl:ad106=ad108:=(by injection e108);replace hx108_0:=ct HB hx108_0;replace hx108_1:=ct HB hx108_1;replace hx108_2:=ct HB hx108_2;replace p108:=eq_true p108;replace q108:=eq_true q108)|(go_at_call 69;(try simp only [i64_w,i32_w]);(with_reducible refine (spec_l01In.calls ((rd_T66 l0 A3).f2) 1 8 false _ A18.out).mono ?_);rintro e w' ⟨rfl,⟨nd,rfl⟩⟩));go_ret;exact ⟨er,tb HB⟩
        ·replace c17:=Bool.eq_false_iff.mpr c17;subst c17
         have H1:(some false)=some r:=by rw [if_neg (show ¬ (false=true) by decide)] at H;exact H
         clear H;have H:=H1;clear H1;obtain rfl:=os H;have p106:0≤(A3:Int):=od;have q106:A3 < (l0.length:Int):=od;obtain ⟨ad106,e106,hx106_0,hx106_1,hx106_2⟩:=at_T66 HR0.out A3 p106 q106;cases e106;replace hx106_0:=ct HB hx106_0;replace hx106_1:=ct HB hx106_1;replace hx106_2:=ct HB hx106_2;replace p106:=eq_true p106;replace q106:=eq_true q106;go_wp2_with (first|((with_reducible refine gate_callee (f:=69) rfl ?_);refine goesL_ (some 34) rfl rfl Try.func69 (by kernel_rfl) rfl #[.int .i64 ((rd_T66 l0 A3).f1),.int .i64 0,.int .i64 7] rfl ml ?_;(with_reducible refine (spec_l01In.calls ((rd_T66 l0 A3).f1) 0 7 false _ A16.out).mono ?_);rintro e w' ⟨rfl,⟨nd,rfl⟩⟩;refine ⟨_,rfl,?_⟩));go_ret;exact ⟨er,tb HB⟩
       ·rw [if_neg c15] at H;exact absurd H (by simp)
      ·rw [if_neg c14] at H;have c14b0:decide (A3 < (l0.length:Int))=false:=decide_eq_false c14;clear c14;replace H:=ob H;obtain ⟨A8,A280,H⟩:=H;replace H:(spec_FrontOk.l1 k2 l1 A5 A8 0)=some r:=H;have A28:=Aside0.mk A280;clear A280;have H':=Aside0.mk H;clear H;go_wp2_with (first|((with_reducible refine gate_callee (f:=102) rfl ?_);refine goesL_ (some 69) rfl rfl Try.func102 (by kernel_rfl) rfl #[.slice A1 l1.length c1] rfl ml ?_;(with_reducible refine (spec_l02Reach.calls k2 _ _ l1 A8 _ ?side1 ?side2 A28.out).mono ?_);(case side1=>exact cw (Kd.C_below HR1.out HB.out));(case side2=>exact HC1.out);rintro e w29 ⟨v116,rfl,ho0,hb⟩;refine ⟨_,rfl,?_⟩;replace A6:=Aside0.mk (Kd.R_below (ra A6) hb);have Ah:=Aside0.mk (Kd.R_lower ho0 (below_size (tb HB)));replace HB:=Aside0.mk (below_step (tb HB) hb);(try clear hb);(try clear hb2);(try clear hk);(try clear hi);(try clear ho0)))
       go_loopg [8] k2 (fun kq v8 w'=>∃ (A2:Int),v8 = .int .i64 A2∧Aside0 (spec_FrontOk.l1 kq l1 A5 A8 A2=some r)∧Aside0 (kq≤k2)∧Aside0 (Kd.R (Kd.int .i64) 3 w' w.heap.size (fun _=>True) v104 A5)∧Aside0 (Kd.R Kd.bool 4 w' w.heap.size (fun _=>True) v116 A8)∧Aside0 (Below w.heap.size w w'))
       case atStart=>exact ⟨(0),(by first|rfl|(simp;done)|(simp [*];done)),H',⟨Nat.le_refl _⟩,⟨ra A6⟩,⟨ra Ah⟩,⟨by exact tb HB⟩⟩
       case round =>
        clear H';(try clear c1);(try clear p1);(try clear q1);(try clear hx1);(try clear c2);(try clear p2);(try clear q2);(try clear hx2);(try clear hf2);(try clear c5);(try clear c6);(try clear p6);(try clear c7);(try clear c7b0);(try clear c8);(try clear c8b0);(try clear c10);(try clear p10);(try clear q10);(try clear hx10);(try clear c11);(try clear p11);(try clear q11);(try clear hx11);(try clear c14);(try clear c14b0);(try clear c15);(try clear c15b0);(try clear c17);(try clear c19);(try clear c20);(try clear c20b0);(try clear c21);(try clear c21b0);(try clear c22);(try clear c22b0);(try clear c22b1);(try clear p23);(try clear q23);(try clear hx23);(try clear hf23);(try clear hx102_0);(try clear hx102_1);(try clear hx102_2);(try clear hx102_3);(try clear hx102_4);(try clear hx102_5);(try clear hx106_0);(try clear hx106_1);(try clear hx106_2);(try clear hx108_0);(try clear hx108_1);(try clear hx108_2);(try clear hx110_0);(try clear hx110_1);(try clear hx110_2);(try clear hx111_0);(try clear hx112_0);(try clear hx112_1);(try clear hx112_2);(try clear hx113_0);(try clear hx113_1);(try clear hx113_2);(try clear hx23_0);(try clear p1);(try clear p10);(try clear p102);(try clear p106);(try clear p108);(try clear p110);(try clear p111);(try clear p112);(try clear p113);(try clear p2);(try clear p23);(try clear p6);(try clear q1);(try clear q10);(try clear q102);(try clear q106);(try clear q108);(try clear q110);(try clear q111);(try clear q112);(try clear q113);(try clear q23);obtain ⟨A2,rfl,HA,HK3,A6,A7,HB⟩:=hrel
        cases gk with
        | zero=>exact absurd HA.out (by simp [spec_FrontOk.l1])
        | succ k3 =>
         have H:=HA.out;clear HA;simp only [spec_FrontOk.l1] at H
         by_cases c30:A2 < (l1.length:Int)
         ·rw [if_pos c30] at H;have c30b0:decide (A2 < (l1.length:Int))=true:=decide_eq_true c30;clear c30
          by_cases c31:0≤A2
          ·rw [if_pos c31] at H;have c31b0:decide (0≤A2)=true:=decide_eq_true c31;clear c31;replace H:=ob H;obtain ⟨Ae,A320,H⟩:=H;replace H:(if Ae=true then (some false) else (if A2 < (A8.length:Int) then (if rdOf false A8 A2=true then (if ((rd_T99 l1 A2).f0)=1 then (if 0≤((rd_T99 l1 A2).f2) then (if ((rd_T99 l1 A2).f2) < (A5.length:Int) then (if (rd A5 ((rd_T99 l1 A2).f2))=((rd_T99 l1 A2).f1) then (spec_FrontOk.l1 k3 l1 A5 A8 (wrap64 (A2 + 1))) else (some false)) else (none)) else (none)) else (spec_FrontOk.l1 k3 l1 A5 A8 (wrap64 (A2 + 1)))) else (spec_FrontOk.l1 k3 l1 A5 A8 (wrap64 (A2 + 1)))) else (none)))=some r:=H;have A32:=Aside0.mk A320;clear A320
           by_cases c33:Ae=true
           ·subst c33
            have H1:(some false)=some r:=by rw [if_pos rfl] at H;exact H
            clear H;have H:=H1;clear H1;obtain rfl:=os H
            try go_wp2
            have n0_:=Aside0.mk (Kd.R_drew A6.out);have n1_:=Aside0.mk (Kd.R_drew A7.out);have n2_:=Aside0.mk (below_drew1 HB.out);clear A6;clear A7;clear HB;have A6:=n0_;have A7:=n1_;have HB:=n2_;clear n0_ n1_ n2_;have p118:0≤(A2:Int):=od;have q118:A2 < (l1.length:Int):=od;obtain ⟨ad118,e118,hx118_0,hx118_1,hx118_2,hx118_3,hx118_4,hx118_5⟩:=at_T99 HR1.out A2 p118 q118;have hw118_5:=hx118_5;have hw118_4:=hx118_4;have hw118_3:=hx118_3;have hw118_2:=hx118_2;have hw118_1:=hx118_1;have hw118_0:=hx118_0;cases e118;replace hx118_0:=ct HB hx118_0;replace hx118_1:=ct HB hx118_1;replace hx118_2:=ct HB hx118_2;replace hx118_3:=ct HB hx118_3;replace hx118_4:=ct HB hx118_4;replace hx118_5:=ct HB hx118_5;replace p118:=eq_true p118;replace q118:=eq_true q118;refine start_ (n:=36) (S:=fun w'=>w'.cell? (ad118.add ((A2).toNat * 6))=some (.int .i64 ((rd_T99 l1 A2).f0))∧w'.cell? ⟨(ad118.add ((A2).toNat * 6)).block,(ad118.add ((A2).toNat * 6)).off + 1,none⟩=some (.int .i64 ((rd_T99 l1 A2).f1))∧w'.cell? ⟨(ad118.add ((A2).toNat * 6)).block,(ad118.add ((A2).toNat * 6)).off + 2,none⟩=some (.int .i64 ((rd_T99 l1 A2).f2))∧w'.cell? ⟨(ad118.add ((A2).toNat * 6)).block,(ad118.add ((A2).toNat * 6)).off + 3,none⟩=some (.int .i64 ((rd_T99 l1 A2).f3))∧w'.cell? ⟨(ad118.add ((A2).toNat * 6)).block,(ad118.add ((A2).toNat * 6)).off + 4,none⟩=some (.int .i64 ((rd_T99 l1 A2).f4))∧w'.cell? ⟨(ad118.add ((A2).toNat * 6)).block,(ad118.add ((A2).toNat * 6)).off + 5,none⟩=some (.int .i64 ((rd_T99 l1 A2).f5))) (ds:=[]) (tf 0 36) (by kernel_rfl) rfl rfl ⟨(ct HB hw118_0 :),(ct HB hw118_1 :),(ct HB hw118_2 :),(ct HB hw118_3 :),(ct HB hw118_4 :),(ct HB hw118_5 :)⟩ (fun hHeld=>?_);refine with_tabW spec_FrontOk.tab14 spec_FrontOk.bits14 (fun HT_ HW_=>?_);generalize wr.drew=w34 at A6 A7 HB hx118_0 hx118_1 hx118_2 hx118_3 hx118_4 hx118_5 hHeld ⊢;refine pure_ (i:=0) (N:=some 76) (v:=?_) (a':=?_) (tf 1 35) rfl rfl (any_of HT_.out (by kernel_rfl)) (fun _ _ _ h=>h) (Or.inl ⟨by rfl,?_⟩) ?_ ?_;rotate_left
            ·intro w';go_simp;with_reducible rfl
            rotate_left
            ·simp only [Act.put,s1,s2,s3,i64_w,i32_w];rfl
            refine pure_ (i:=1) (N:=some 77) (v:=?_) (a':=?_) (tf 2 34) rfl rfl (any_of HT_.out (by kernel_rfl)) (fun _ _ _ h=>h) (Or.inl ⟨by rfl,?_⟩) ?_ ?_;rotate_left
            ·intro w';go_simp;with_reducible rfl
            rotate_left
            ·simp only [Act.put,s1,s2,s3,i64_w,i32_w];rfl
            refine pure_ (i:=2) (N:=some 78) (v:=?_) (a':=?_) (tf 3 33) rfl rfl (any_of HT_.out (by kernel_rfl)) (fun _ _ _ h=>h) (Or.inl ⟨by rfl,?_⟩) ?_ ?_;rotate_left
            ·intro w';go_simp;with_reducible rfl
            rotate_left
            ·simp only [Act.put,s1,s2,s3,i64_w,i32_w];rfl
            refine pure_ (i:=3) (N:=some 79) (v:=?_) (a':=?_) (tf 4 32) rfl rfl (any_of HT_.out (by kernel_rfl)) (fun _ _ _ h=>h) (Or.inl ⟨by rfl,?_⟩) ?_ ?_;rotate_left
            ·intro w';go_simp;with_reducible rfl
            rotate_left
            ·simp only [Act.put,s1,s2,s3,i64_w,i32_w];rfl
            refine take_ (i:=4) (N:=some 80) (v:=?_) (a':=?_) (tf 5 31) rfl rfl (take_ofW HT_.out HW_.out (by kernel_rfl)) (fun _ _ _ h=>h) (Or.inl ⟨by rfl,?_⟩) hHeld ?_ ?_;rotate_left
            ·rintro w' ⟨s0,s1,s2,s3,s4,s5⟩;go_simp;with_reducible rfl
            rotate_left
            ·simp only [Act.put,s1,s2,s3,i64_w,i32_w];rfl
            refine one_ (i:=5) (N:=some 81) (tf 6 30) rfl rfl (one_of HT_.out (by kernel_rfl)) (by decide) (fun K hK=>?_);refine goes_ Try.func103 (by kernel_rfl) rfl #[.int .i64 ((rd_T99 l1 A2).f0)] (by rfl) rfl rfl ml ?_
            with_reducible refine (spec_l02Quant.calls ((rd_T99 l1 A2).f0) true _ A32.out).mono ?_
            rintro e w' ⟨rfl,⟨nd,rfl⟩⟩;refine ⟨_,rfl,?_⟩;refine hK.out _ _ ⟨(ct HB hw118_0 :),(ct HB hw118_1 :),(ct HB hw118_2 :),(ct HB hw118_3 :),(ct HB hw118_4 :),(ct HB hw118_5 :)⟩ (fun hHeld=>?_);clear hK K;refine norm_ (a':=?_) ?_ ?_;rotate_left
            ·show Act.put _ (some 81) _=_
             simp only [Act.put,s1,s2,s3,i64_w,i32_w];rfl
            refine pure_ (i:=6) (N:=some 82) (v:=?_) (a':=?_) (tf 7 29) rfl rfl (any_of HT_.out (by kernel_rfl)) (fun _ _ _ h=>h) (Or.inl ⟨by rfl,?_⟩) ?_ ?_;rotate_left
            ·intro w';go_simp;with_reducible rfl
            rotate_left
            ·simp only [Act.put,s1,s2,s3,i64_w,i32_w];rfl
            refine pure_ (i:=7) (N:=some 83) (v:=undef) (a':=?_) (tf 8 28) rfl rfl (any_of HT_.out (by kernel_rfl)) (fun _ _ _ h=>h) (Or.inr ⟨by rfl,rfl⟩) ?_ ?_;rotate_left
            ·simp only [Act.put,s1,s2,s3,i64_w,i32_w];rfl
            refine pure_ (i:=8) (N:=some 84) (v:=undef) (a':=?_) (tf 9 27) rfl rfl (any_of HT_.out (by kernel_rfl)) (fun _ _ _ h=>h) (Or.inr ⟨by rfl,rfl⟩) ?_ ?_;rotate_left
            ·simp only [Act.put,s1,s2,s3,i64_w,i32_w];rfl
            refine pure_ (i:=9) (N:=some 85) (v:=undef) (a':=?_) (tf 10 26) rfl rfl (any_of HT_.out (by kernel_rfl)) (fun _ _ _ h=>h) (Or.inr ⟨by rfl,rfl⟩) ?_ ?_;rotate_left
            ·simp only [Act.put,s1,s2,s3,i64_w,i32_w];rfl
            refine pure_ (i:=10) (N:=some 86) (v:=undef) (a':=?_) (tf 11 25) rfl rfl (any_of HT_.out (by kernel_rfl)) (fun _ _ _ h=>h) (Or.inr ⟨by rfl,rfl⟩) ?_ ?_;rotate_left
            ·simp only [Act.put,s1,s2,s3,i64_w,i32_w];rfl
            refine pure_ (i:=11) (N:=some 87) (v:=undef) (a':=?_) (tf 12 24) rfl rfl (any_of HT_.out (by kernel_rfl)) (fun _ _ _ h=>h) (Or.inr ⟨by rfl,rfl⟩) ?_ ?_;rotate_left
            ·simp only [Act.put,s1,s2,s3,i64_w,i32_w];rfl
            refine pure_ (i:=12) (N:=some 88) (v:=undef) (a':=?_) (tf 13 23) rfl rfl (any_of HT_.out (by kernel_rfl)) (fun _ _ _ h=>h) (Or.inr ⟨by rfl,rfl⟩) ?_ ?_;rotate_left
            ·simp only [Act.put,s1,s2,s3,i64_w,i32_w];rfl
            refine pure_ (i:=13) (N:=some 89) (v:=undef) (a':=?_) (tf 14 22) rfl rfl (any_of HT_.out (by kernel_rfl)) (fun _ _ _ h=>h) (Or.inr ⟨by rfl,rfl⟩) ?_ ?_;rotate_left
            ·simp only [Act.put,s1,s2,s3,i64_w,i32_w];rfl
            refine pure_ (i:=14) (N:=some 90) (v:=undef) (a':=?_) (tf 15 21) rfl rfl (any_of HT_.out (by kernel_rfl)) (fun _ _ _ h=>h) (Or.inr ⟨by rfl,rfl⟩) ?_ ?_;rotate_left
            ·simp only [Act.put,s1,s2,s3,i64_w,i32_w];rfl
            refine pure_ (i:=15) (N:=some 91) (v:=undef) (a':=?_) (tf 16 20) rfl rfl (any_of HT_.out (by kernel_rfl)) (fun _ _ _ h=>h) (Or.inr ⟨by rfl,rfl⟩) ?_ ?_;rotate_left
            ·simp only [Act.put,s1,s2,s3,i64_w,i32_w];rfl
            refine pure_ (i:=16) (N:=some 92) (v:=undef) (a':=?_) (tf 17 19) rfl rfl (any_of HT_.out (by kernel_rfl)) (fun _ _ _ h=>h) (Or.inr ⟨by rfl,rfl⟩) ?_ ?_;rotate_left
            ·simp only [Act.put,s1,s2,s3,i64_w,i32_w];rfl
            refine pure_ (i:=17) (N:=some 93) (v:=undef) (a':=?_) (tf 18 18) rfl rfl (any_of HT_.out (by kernel_rfl)) (fun _ _ _ h=>h) (Or.inr ⟨by rfl,rfl⟩) ?_ ?_;rotate_left
            ·simp only [Act.put,s1,s2,s3,i64_w,i32_w];rfl
            refine pure_ (i:=18) (N:=some 94) (v:=undef) (a':=?_) (tf 19 17) rfl rfl (any_of HT_.out (by kernel_rfl)) (fun _ _ _ h=>h) (Or.inr ⟨by rfl,rfl⟩) ?_ ?_;rotate_left
            ·simp only [Act.put,s1,s2,s3,i64_w,i32_w];rfl
            refine pure_ (i:=19) (N:=some 95) (v:=undef) (a':=?_) (tf 20 16) rfl rfl (any_of HT_.out (by kernel_rfl)) (fun _ _ _ h=>h) (Or.inr ⟨by rfl,rfl⟩) ?_ ?_;rotate_left
            ·simp only [Act.put,s1,s2,s3,i64_w,i32_w];rfl
            refine pure_ (i:=20) (N:=some 96) (v:=undef) (a':=?_) (tf 21 15) rfl rfl (any_of HT_.out (by kernel_rfl)) (fun _ _ _ h=>h) (Or.inr ⟨by rfl,rfl⟩) ?_ ?_;rotate_left
            ·simp only [Act.put,s1,s2,s3,i64_w,i32_w];rfl
            refine pure_ (i:=21) (N:=some 97) (v:=undef) (a':=?_) (tf 22 14) rfl rfl (any_of HT_.out (by kernel_rfl)) (fun _ _ _ h=>h) (Or.inr ⟨by rfl,rfl⟩) ?_ ?_;rotate_left
            ·simp only [Act.put,s1,s2,s3,i64_w,i32_w];rfl
            refine pure_ (i:=22) (N:=some 98) (v:=undef) (a':=?_) (tf 23 13) rfl rfl (any_of HT_.out (by kernel_rfl)) (fun _ _ _ h=>h) (Or.inr ⟨by rfl,rfl⟩) ?_ ?_;rotate_left
            ·simp only [Act.put,s1,s2,s3,i64_w,i32_w];rfl
            refine pure_ (i:=23) (N:=some 99) (v:=undef) (a':=?_) (tf 24 12) rfl rfl (any_of HT_.out (by kernel_rfl)) (fun _ _ _ h=>h) (Or.inr ⟨by rfl,rfl⟩) ?_ ?_;rotate_left
            ·simp only [Act.put,s1,s2,s3,i64_w,i32_w];rfl
            refine pure_ (i:=24) (N:=some 100) (v:=undef) (a':=?_) (tf 25 11) rfl rfl (any_of HT_.out (by kernel_rfl)) (fun _ _ _ h=>h) (Or.inr ⟨by rfl,rfl⟩) ?_ ?_;rotate_left
            ·simp only [Act.put,s1,s2,s3,i64_w,i32_w];rfl
            refine pure_ (i:=25) (N:=some 101) (v:=undef) (a':=?_) (tf 26 10) rfl rfl (any_of HT_.out (by kernel_rfl)) (fun _ _ _ h=>h) (Or.inr ⟨by rfl,rfl⟩) ?_ ?_;rotate_left
            ·simp only [Act.put,s1,s2,s3,i64_w,i32_w];rfl
            refine pure_ (i:=26) (N:=some 102) (v:=undef) (a':=?_) (tf 27 9) rfl rfl (any_of HT_.out (by kernel_rfl)) (fun _ _ _ h=>h) (Or.inr ⟨by rfl,rfl⟩) ?_ ?_;rotate_left
            ·simp only [Act.put,s1,s2,s3,i64_w,i32_w];rfl
            refine pure_ (i:=27) (N:=some 103) (v:=undef) (a':=?_) (tf 28 8) rfl rfl (any_of HT_.out (by kernel_rfl)) (fun _ _ _ h=>h) (Or.inr ⟨by rfl,rfl⟩) ?_ ?_;rotate_left
            ·simp only [Act.put,s1,s2,s3,i64_w,i32_w];rfl
            refine pure_ (i:=28) (N:=some 104) (v:=undef) (a':=?_) (tf 29 7) rfl rfl (any_of HT_.out (by kernel_rfl)) (fun _ _ _ h=>h) (Or.inr ⟨by rfl,rfl⟩) ?_ ?_;rotate_left
            ·simp only [Act.put,s1,s2,s3,i64_w,i32_w];rfl
            refine pure_ (i:=29) (N:=some 105) (v:=undef) (a':=?_) (tf 30 6) rfl rfl (any_of HT_.out (by kernel_rfl)) (fun _ _ _ h=>h) (Or.inr ⟨by rfl,rfl⟩) ?_ ?_;rotate_left
            ·simp only [Act.put,s1,s2,s3,i64_w,i32_w];rfl
            refine pure_ (i:=30) (N:=some 106) (v:=undef) (a':=?_) (tf 31 5) rfl rfl (any_of HT_.out (by kernel_rfl)) (fun _ _ _ h=>h) (Or.inr ⟨by rfl,rfl⟩) ?_ ?_;rotate_left
            ·simp only [Act.put,s1,s2,s3,i64_w,i32_w];rfl
            refine pure_ (i:=31) (N:=some 107) (v:=undef) (a':=?_) (tf 32 4) rfl rfl (any_of HT_.out (by kernel_rfl)) (fun _ _ _ h=>h) (Or.inr ⟨by rfl,rfl⟩) ?_ ?_;rotate_left
            ·simp only [Act.put,s1,s2,s3,i64_w,i32_w];rfl
            refine pure_ (i:=32) (N:=some 108) (v:=undef) (a':=?_) (tf 33 3) rfl rfl (any_of HT_.out (by kernel_rfl)) (fun _ _ _ h=>h) (Or.inr ⟨by rfl,rfl⟩) ?_ ?_;rotate_left
            ·simp only [Act.put,s1,s2,s3,i64_w,i32_w];rfl
            refine pure_ (i:=33) (N:=some 109) (v:=undef) (a':=?_) (tf 34 2) rfl rfl (any_of HT_.out (by kernel_rfl)) (fun _ _ _ h=>h) (Or.inr ⟨by rfl,rfl⟩) ?_ ?_;rotate_left
            ·simp only [Act.put,s1,s2,s3,i64_w,i32_w];rfl
            refine pure_ (i:=34) (N:=some 110) (v:=undef) (a':=?_) (tf 35 1) rfl rfl (any_of HT_.out (by kernel_rfl)) (fun _ _ _ h=>h) (Or.inr ⟨by rfl,rfl⟩) ?_ ?_;rotate_left
            ·simp only [Act.put,s1,s2,s3,i64_w,i32_w];rfl
            refine pure_ (i:=35) (N:=some 111) (v:=?_) (a':=?_) (tf 36 0) rfl rfl (any_of HT_.out (by kernel_rfl)) (fun _ _ _ h=>h) (Or.inl ⟨by rfl,?_⟩) ?_ ?_;rotate_left
            ·intro w';go_simp;with_reducible rfl
            rotate_left
            ·simp only [Act.put,s1,s2,s3,i64_w,i32_w];rfl
            refine done_ (done_of HT_.out (by kernel_rfl)) ?_
            try go_wp2
            go_ret;exact ⟨er,tb HB⟩
           ·replace c33:=Bool.eq_false_iff.mpr c33;subst c33
            have H1:(if A2 < (A8.length:Int) then (if rdOf false A8 A2=true then (if ((rd_T99 l1 A2).f0)=1 then (if 0≤((rd_T99 l1 A2).f2) then (if ((rd_T99 l1 A2).f2) < (A5.length:Int) then (if (rd A5 ((rd_T99 l1 A2).f2))=((rd_T99 l1 A2).f1) then (spec_FrontOk.l1 k3 l1 A5 A8 (wrap64 (A2 + 1))) else (some false)) else (none)) else (none)) else (spec_FrontOk.l1 k3 l1 A5 A8 (wrap64 (A2 + 1)))) else (spec_FrontOk.l1 k3 l1 A5 A8 (wrap64 (A2 + 1)))) else (none))=some r:=by rw [if_neg (show ¬ (false=true) by decide)] at H;exact H
            clear H;have H:=H1;clear H1
            by_cases c35:A2 < (A8.length:Int)
            ·rw [if_pos c35] at H;have c35b0:decide (A2 < (A8.length:Int))=true:=decide_eq_true c35;clear c35;obtain ⟨bq36,hbq36⟩:∃ b_:Bool,b_=(rdOf false A8 A2):=⟨_,rfl⟩
             replace H:(if bq36=true then (if ((rd_T99 l1 A2).f0)=1 then (if 0≤((rd_T99 l1 A2).f2) then (if ((rd_T99 l1 A2).f2) < (A5.length:Int) then (if (rd A5 ((rd_T99 l1 A2).f2))=((rd_T99 l1 A2).f1) then (spec_FrontOk.l1 k3 l1 A5 A8 (wrap64 (A2 + 1))) else (some false)) else (none)) else (none)) else (spec_FrontOk.l1 k3 l1 A5 A8 (wrap64 (A2 + 1)))) else (spec_FrontOk.l1 k3 l1 A5 A8 (wrap64 (A2 + 1))))=some r:=by rw [← hbq36] at H;exact H
             have Nbq36:=Aside0.mk hbq36;clear hbq36
             by_cases c37:bq36=true
             ·subst c37
              have H1:(if ((rd_T99 l1 A2).f0)=1 then (if 0≤((rd_T99 l1 A2).f2) then (if ((rd_T99 l1 A2).f2) < (A5.length:Int) then (if (rd A5 ((rd_T99 l1 A2).f2))=((rd_T99 l1 A2).f1) then (spec_FrontOk.l1 k3 l1 A5 A8 (wrap64 (A2 + 1))) else (some false)) else (none)) else (none)) else (spec_FrontOk.l1 k3 l1 A5 A8 (wrap64 (A2 + 1))))=some r:=by rw [if_pos rfl] at H;exact H
              clear H;have H:=H1;clear H1
              by_cases c38:((rd_T99 l1 A2).f0)=1
              ·rw [if_pos c38] at H;have c38b0:(((rd_T99 l1 A2).f0) == 1)=true:=beq_iff_eq.mpr c38;have c38b1:(((rd_T99 l1 A2).f0) != 1)=false:=bne_eq_false_iff_eq.mpr c38;clear c38
               by_cases c39:0≤((rd_T99 l1 A2).f2)
               ·rw [if_pos c39] at H;have c39b0:decide (0≤((rd_T99 l1 A2).f2))=true:=decide_eq_true c39;clear c39
                by_cases c40:((rd_T99 l1 A2).f2) < (A5.length:Int)
                ·rw [if_pos c40] at H;have c40b0:decide (((rd_T99 l1 A2).f2) < (A5.length:Int))=true:=decide_eq_true c40;clear c40
                 by_cases c41:(rd A5 ((rd_T99 l1 A2).f2))=((rd_T99 l1 A2).f1)
                 ·rw [if_pos c41] at H;have c41b0:((rd A5 ((rd_T99 l1 A2).f2)) == ((rd_T99 l1 A2).f1))=true:=beq_iff_eq.mpr c41;have c41b1:((rd A5 ((rd_T99 l1 A2).f2)) != ((rd_T99 l1 A2).f1))=false:=bne_eq_false_iff_eq.mpr c41;clear c41;have H':=Aside0.mk H;clear H
                  try go_wp2
                  have n0_:=Aside0.mk (Kd.R_drew A6.out);have n1_:=Aside0.mk (Kd.R_drew A7.out);have n2_:=Aside0.mk (below_drew1 HB.out);clear A6;clear A7;clear HB;have A6:=n0_;have A7:=n1_;have HB:=n2_;clear n0_ n1_ n2_;have p118:0≤(A2:Int):=od;have q118:A2 < (l1.length:Int):=od;obtain ⟨ad118,e118,hx118_0,hx118_1,hx118_2,hx118_3,hx118_4,hx118_5⟩:=at_T99 HR1.out A2 p118 q118;have hw118_5:=hx118_5;have hw118_4:=hx118_4;have hw118_3:=hx118_3;have hw118_2:=hx118_2;have hw118_1:=hx118_1;have hw118_0:=hx118_0;cases e118;replace hx118_0:=ct HB hx118_0;replace hx118_1:=ct HB hx118_1;replace hx118_2:=ct HB hx118_2;replace hx118_3:=ct HB hx118_3;replace hx118_4:=ct HB hx118_4;replace hx118_5:=ct HB hx118_5;replace p118:=eq_true p118;replace q118:=eq_true q118;have p120:0≤(A2:Int):=od;have q120:A2 < (A8.length:Int):=od
                  (try (obtain ⟨Aq_,cq_,eq_⟩:=Kd.R_slice A7.out;subst eq_))
                  obtain ⟨ad120,e120,hx120_0⟩:=Kd.at_bool (Kd.R_reads' A7.out).2.2 A2 p120 q120
                  (try rw [← Nbq36.out] at hx120_0)
                  cases e120;replace p120:=eq_true p120;replace q120:=eq_true q120;have p121:0≤(A2:Int):=od;have q121:A2 < (l1.length:Int):=od;obtain ⟨ad121,e121,hx121_0,hx121_1,hx121_2,hx121_3,hx121_4,hx121_5⟩:=at_T99 HR1.out A2 p121 q121;have hw121_5:=hx121_5;have hw121_4:=hx121_4;have hw121_3:=hx121_3;have hw121_2:=hx121_2;have hw121_1:=hx121_1;have hw121_0:=hx121_0;obtain rfl:ad118=ad121:=(by injection e121);replace hx121_0:=ct HB hx121_0;replace hx121_1:=ct HB hx121_1;replace hx121_2:=ct HB hx121_2;replace hx121_3:=ct HB hx121_3;replace hx121_4:=ct HB hx121_4;replace hx121_5:=ct HB hx121_5;replace p121:=eq_true p121;replace q121:=eq_true q121;have p122:0≤(A2:Int):=od;have q122:A2 < (l1.length:Int):=od;obtain ⟨ad122,e122,hx122_0,hx122_1,hx122_2,hx122_3,hx122_4,hx122_5⟩:=at_T99 HR1.out A2 p122 q122;have hw122_5:=hx122_5;have hw122_4:=hx122_4;have hw122_3:=hx122_3;have hw122_2:=hx122_2;have hw122_1:=hx122_1;have hw122_0:=hx122_0;obtain rfl:ad118=ad122:=(by injection e122);replace hx122_0:=ct HB hx122_0;replace hx122_1:=ct HB hx122_1;replace hx122_2:=ct HB hx122_2;replace hx122_3:=ct HB hx122_3;replace hx122_4:=ct HB hx122_4;replace hx122_5:=ct HB hx122_5;replace p122:=eq_true p122;replace q122:=eq_true q122;have p123:0≤(((rd_T99 l1 A2).f2):Int):=od;have q123:((rd_T99 l1 A2).f2) < (A5.length:Int):=od
                  (try (obtain ⟨Aq_,cq_,eq_⟩:=Kd.R_slice A6.out;subst eq_))
                  obtain ⟨ad123,e123,hx123_0⟩:=Kd.at_int (Kd.R_reads' A6.out).2.2 ((rd_T99 l1 A2).f2) p123 q123;cases e123;replace p123:=eq_true p123;replace q123:=eq_true q123;have p124:0≤(A2:Int):=od;have q124:A2 < (l1.length:Int):=od;obtain ⟨ad124,e124,hx124_0,hx124_1,hx124_2,hx124_3,hx124_4,hx124_5⟩:=at_T99 HR1.out A2 p124 q124;have hw124_5:=hx124_5;have hw124_4:=hx124_4;have hw124_3:=hx124_3;have hw124_2:=hx124_2;have hw124_1:=hx124_1;have hw124_0:=hx124_0;obtain rfl:ad118=ad124:=(by injection e124);replace hx124_0:=ct HB hx124_0;replace hx124_1:=ct HB hx124_1;replace hx124_2:=ct HB hx124_2;replace hx124_3:=ct HB hx124_3;replace hx124_4:=ct HB hx124_4;replace hx124_5:=ct HB hx124_5;replace p124:=eq_true p124;replace q124:=eq_true q124
                  refine start_ (n:=36) (S:=fun w'=>w'.cell? (ad118.add ((A2).toNat * 6))=some (.int .i64 ((rd_T99 l1 A2).f0))∧w'.cell? ⟨(ad118.add ((A2).toNat * 6)).block,(ad118.add ((A2).toNat * 6)).off + 1,none⟩=some (.int .i64 ((rd_T99 l1 A2).f1))∧w'.cell? ⟨(ad118.add ((A2).toNat * 6)).block,(ad118.add ((A2).toNat * 6)).off + 2,none⟩=some (.int .i64 ((rd_T99 l1 A2).f2))∧w'.cell? ⟨(ad118.add ((A2).toNat * 6)).block,(ad118.add ((A2).toNat * 6)).off + 3,none⟩=some (.int .i64 ((rd_T99 l1 A2).f3))∧w'.cell? ⟨(ad118.add ((A2).toNat * 6)).block,(ad118.add ((A2).toNat * 6)).off + 4,none⟩=some (.int .i64 ((rd_T99 l1 A2).f4))∧w'.cell? ⟨(ad118.add ((A2).toNat * 6)).block,(ad118.add ((A2).toNat * 6)).off + 5,none⟩=some (.int .i64 ((rd_T99 l1 A2).f5))∧w'.cell? (ad120.add (A2).toNat)=some (.bool true)∧w'.cell? (ad118.add ((A2).toNat * 6))=some (.int .i64 ((rd_T99 l1 A2).f0))∧w'.cell? ⟨(ad118.add ((A2).toNat * 6)).block,(ad118.add ((A2).toNat * 6)).off + 1,none⟩=some (.int .i64 ((rd_T99 l1 A2).f1))∧w'.cell? ⟨(ad118.add ((A2).toNat * 6)).block,(ad118.add ((A2).toNat * 6)).off + 2,none⟩=some (.int .i64 ((rd_T99 l1 A2).f2))∧w'.cell? ⟨(ad118.add ((A2).toNat * 6)).block,(ad118.add ((A2).toNat * 6)).off + 3,none⟩=some (.int .i64 ((rd_T99 l1 A2).f3))∧w'.cell? ⟨(ad118.add ((A2).toNat * 6)).block,(ad118.add ((A2).toNat * 6)).off + 4,none⟩=some (.int .i64 ((rd_T99 l1 A2).f4))∧w'.cell? ⟨(ad118.add ((A2).toNat * 6)).block,(ad118.add ((A2).toNat * 6)).off + 5,none⟩=some (.int .i64 ((rd_T99 l1 A2).f5))∧w'.cell? (ad118.add ((A2).toNat * 6))=some (.int .i64 ((rd_T99 l1 A2).f0))∧w'.cell? ⟨(ad118.add ((A2).toNat * 6)).block,(ad118.add ((A2).toNat * 6)).off + 1,none⟩=some (.int .i64 ((rd_T99 l1 A2).f1))∧w'.cell? ⟨(ad118.add ((A2).toNat * 6)).block,(ad118.add ((A2).toNat * 6)).off + 2,none⟩=some (.int .i64 ((rd_T99 l1 A2).f2))∧w'.cell? ⟨(ad118.add ((A2).toNat * 6)).block,(ad118.add ((A2).toNat * 6)).off + 3,none⟩=some (.int .i64 ((rd_T99 l1 A2).f3))∧w'.cell? ⟨(ad118.add ((A2).toNat * 6)).block,(ad118.add ((A2).toNat * 6)).off + 4,none⟩=some (.int .i64 ((rd_T99 l1 A2).f4))∧w'.cell? ⟨(ad118.add ((A2).toNat * 6)).block,(ad118.add ((A2).toNat * 6)).off + 5,none⟩=some (.int .i64 ((rd_T99 l1 A2).f5))∧w'.cell? (ad123.add (((rd_T99 l1 A2).f2)).toNat)=some (.int .i64 (rd A5 ((rd_T99 l1 A2).f2)))∧w'.cell? (ad118.add ((A2).toNat * 6))=some (.int .i64 ((rd_T99 l1 A2).f0))∧w'.cell? ⟨(ad118.add ((A2).toNat * 6)).block,(ad118.add ((A2).toNat * 6)).off + 1,none⟩=some (.int .i64 ((rd_T99 l1 A2).f1))∧w'.cell? ⟨(ad118.add ((A2).toNat * 6)).block,(ad118.add ((A2).toNat * 6)).off + 2,none⟩=some (.int .i64 ((rd_T99 l1 A2).f2))∧w'.cell? ⟨(ad118.add ((A2).toNat * 6)).block,(ad118.add ((A2).toNat * 6)).off + 3,none⟩=some (.int .i64 ((rd_T99 l1 A2).f3))∧w'.cell? ⟨(ad118.add ((A2).toNat * 6)).block,(ad118.add ((A2).toNat * 6)).off + 4,none⟩=some (.int .i64 ((rd_T99 l1 A2).f4))∧w'.cell? ⟨(ad118.add ((A2).toNat * 6)).block,(ad118.add ((A2).toNat * 6)).off + 5,none⟩=some (.int .i64 ((rd_T99 l1 A2).f5))) (ds:=[]) (tf 0 36) (by kernel_rfl) rfl rfl ⟨(ct HB hw118_0 :),(ct HB hw118_1 :),(ct HB hw118_2 :),(ct HB hw118_3 :),(ct HB hw118_4 :),(ct HB hw118_5 :),hx120_0,(ct HB hw121_0 :),(ct HB hw121_1 :),(ct HB hw121_2 :),(ct HB hw121_3 :),(ct HB hw121_4 :),(ct HB hw121_5 :),(ct HB hw122_0 :),(ct HB hw122_1 :),(ct HB hw122_2 :),(ct HB hw122_3 :),(ct HB hw122_4 :),(ct HB hw122_5 :),hx123_0,(ct HB hw124_0 :),(ct HB hw124_1 :),(ct HB hw124_2 :),(ct HB hw124_3 :),(ct HB hw124_4 :),(ct HB hw124_5 :)⟩ (fun hHeld=>?_);refine with_tabW spec_FrontOk.tab14 spec_FrontOk.bits14 (fun HT_ HW_=>?_)
                  generalize wr.drew=w42 at A6 A7 HB hx118_0 hx118_1 hx118_2 hx118_3 hx118_4 hx118_5 hx120_0 hx121_0 hx121_1 hx121_2 hx121_3 hx121_4 hx121_5 hx122_0 hx122_1 hx122_2 hx122_3 hx122_4 hx122_5 hx123_0 hx124_0 hx124_1 hx124_2 hx124_3 hx124_4 hx124_5 hHeld ⊢;refine pure_ (i:=0) (N:=some 76) (v:=?_) (a':=?_) (tf 1 35) rfl rfl (any_of HT_.out (by kernel_rfl)) (fun _ _ _ h=>h) (Or.inl ⟨by rfl,?_⟩) ?_ ?_;rotate_left
                  ·intro w';go_simp;with_reducible rfl
                  rotate_left
                  ·simp only [Act.put,s1,s2,s3,i64_w,i32_w];rfl
                  refine pure_ (i:=1) (N:=some 77) (v:=?_) (a':=?_) (tf 2 34) rfl rfl (any_of HT_.out (by kernel_rfl)) (fun _ _ _ h=>h) (Or.inl ⟨by rfl,?_⟩) ?_ ?_;rotate_left
                  ·intro w';go_simp;with_reducible rfl
                  rotate_left
                  ·simp only [Act.put,s1,s2,s3,i64_w,i32_w];rfl
                  refine pure_ (i:=2) (N:=some 78) (v:=?_) (a':=?_) (tf 3 33) rfl rfl (any_of HT_.out (by kernel_rfl)) (fun _ _ _ h=>h) (Or.inl ⟨by rfl,?_⟩) ?_ ?_;rotate_left
                  ·intro w';go_simp;with_reducible rfl
                  rotate_left
                  ·simp only [Act.put,s1,s2,s3,i64_w,i32_w];rfl
                  refine pure_ (i:=3) (N:=some 79) (v:=?_) (a':=?_) (tf 4 32) rfl rfl (any_of HT_.out (by kernel_rfl)) (fun _ _ _ h=>h) (Or.inl ⟨by rfl,?_⟩) ?_ ?_;rotate_left
                  ·intro w';go_simp;with_reducible rfl
                  rotate_left
                  ·simp only [Act.put,s1,s2,s3,i64_w,i32_w];rfl
                  refine take_ (i:=4) (N:=some 80) (v:=?_) (a':=?_) (tf 5 31) rfl rfl (take_ofW HT_.out HW_.out (by kernel_rfl)) (fun _ _ _ h=>h) (Or.inl ⟨by rfl,?_⟩) hHeld ?_ ?_;rotate_left
                  ·rintro w' ⟨s0,s1,s2,s3,s4,s5,s6,s7,s8,s9,s10,s11,s12,s13,s14,s15,s16,s17,s18,s19,s20,s21,s22,s23,s24,s25⟩;go_simp;with_reducible rfl
                  rotate_left
                  ·simp only [Act.put,s1,s2,s3,i64_w,i32_w];rfl
                  refine one_ (i:=5) (N:=some 81) (tf 6 30) rfl rfl (one_of HT_.out (by kernel_rfl)) (by decide) (fun K hK=>?_);refine goes_ Try.func103 (by kernel_rfl) rfl #[.int .i64 ((rd_T99 l1 A2).f0)] (by rfl) rfl rfl ml ?_
                  with_reducible refine (spec_l02Quant.calls ((rd_T99 l1 A2).f0) false _ A32.out).mono ?_
                  rintro e w' ⟨rfl,⟨nd,rfl⟩⟩;refine ⟨_,rfl,?_⟩;obtain ⟨Ao43,co43,eo43⟩:=Kd.R_slice A7.out;(first|subst eo43|(injection eo43 with f1_ f2_ f3_;have f4_:=f1_.symm;have f5_:=f3_.symm;clear f1_ f2_ f3_;subst f4_;subst f5_));obtain ⟨Ao44,co44,eo44⟩:=Kd.R_slice A6.out;(first|subst eo44|(injection eo44 with f1_ f2_ f3_;have f4_:=f1_.symm;have f5_:=f3_.symm;clear f1_ f2_ f3_;subst f4_;subst f5_));refine hK.out _ _ ⟨(ct HB hw118_0 :),(ct HB hw118_1 :),(ct HB hw118_2 :),(ct HB hw118_3 :),(ct HB hw118_4 :),(ct HB hw118_5 :),hHeld.2.2.2.2.2.2.1,(ct HB hw121_0 :),(ct HB hw121_1 :),(ct HB hw121_2 :),(ct HB hw121_3 :),(ct HB hw121_4 :),(ct HB hw121_5 :),(ct HB hw122_0 :),(ct HB hw122_1 :),(ct HB hw122_2 :),(ct HB hw122_3 :),(ct HB hw122_4 :),(ct HB hw122_5 :),hHeld.2.2.2.2.2.2.2.2.2.2.2.2.2.2.2.2.2.2.2.1,(ct HB hw124_0 :),(ct HB hw124_1 :),(ct HB hw124_2 :),(ct HB hw124_3 :),(ct HB hw124_4 :),(ct HB hw124_5 :)⟩ (fun hHeld=>?_);clear hK K;refine norm_ (a':=?_) ?_ ?_;rotate_left
                  ·show Act.put _ (some 81) _=_
                   simp only [Act.put,s1,s2,s3,i64_w,i32_w];rfl
                  refine pure_ (i:=6) (N:=some 82) (v:=?_) (a':=?_) (tf 7 29) rfl rfl (any_of HT_.out (by kernel_rfl)) (fun _ _ _ h=>h) (Or.inl ⟨by rfl,?_⟩) ?_ ?_;rotate_left
                  ·intro w';go_simp;with_reducible rfl
                  rotate_left
                  ·simp only [Act.put,s1,s2,s3,i64_w,i32_w];rfl
                  refine pure_ (i:=7) (N:=some 83) (v:=?_) (a':=?_) (tf 8 28) rfl rfl (any_of HT_.out (by kernel_rfl)) (fun _ _ _ h=>h) (Or.inl ⟨by rfl,?_⟩) ?_ ?_;rotate_left
                  ·intro w';go_simp;with_reducible rfl
                  rotate_left
                  ·simp only [Act.put,s1,s2,s3,i64_w,i32_w];rfl
                  refine pure_ (i:=8) (N:=some 84) (v:=?_) (a':=?_) (tf 9 27) rfl rfl (any_of HT_.out (by kernel_rfl)) (fun _ _ _ h=>h) (Or.inl ⟨by rfl,?_⟩) ?_ ?_;rotate_left
                  ·intro w';go_simp;with_reducible rfl
                  rotate_left
                  ·simp only [Act.put,s1,s2,s3,i64_w,i32_w];rfl
                  refine pure_ (i:=9) (N:=some 85) (v:=?_) (a':=?_) (tf 10 26) rfl rfl (any_of HT_.out (by kernel_rfl)) (fun _ _ _ h=>h) (Or.inl ⟨by rfl,?_⟩) ?_ ?_;rotate_left
                  ·intro w';go_simp;with_reducible rfl
                  rotate_left
                  ·simp only [Act.put,s1,s2,s3,i64_w,i32_w];rfl
                  refine take_ (i:=10) (N:=some 86) (v:=?_) (a':=?_) (tf 11 25) rfl rfl (take_ofW HT_.out HW_.out (by kernel_rfl)) (fun _ _ _ h=>h) (Or.inl ⟨by rfl,?_⟩) hHeld ?_ ?_;rotate_left
                  ·rintro w' ⟨s0,s1,s2,s3,s4,s5,s6,s7,s8,s9,s10,s11,s12,s13,s14,s15,s16,s17,s18,s19,s20,s21,s22,s23,s24,s25⟩;go_simp;with_reducible rfl
                  rotate_left
                  ·simp only [Act.put,s1,s2,s3,i64_w,i32_w];rfl
                  refine pure_ (i:=11) (N:=some 87) (v:=?_) (a':=?_) (tf 12 24) rfl rfl (any_of HT_.out (by kernel_rfl)) (fun _ _ _ h=>h) (Or.inl ⟨by rfl,?_⟩) ?_ ?_;rotate_left
                  ·intro w';go_simp;with_reducible rfl
                  rotate_left
                  ·simp only [Act.put,s1,s2,s3,i64_w,i32_w];rfl
                  refine pure_ (i:=12) (N:=some 88) (v:=?_) (a':=?_) (tf 13 23) rfl rfl (any_of HT_.out (by kernel_rfl)) (fun _ _ _ h=>h) (Or.inl ⟨by rfl,?_⟩) ?_ ?_;rotate_left
                  ·intro w';go_simp;with_reducible rfl
                  rotate_left
                  ·simp only [Act.put,s1,s2,s3,i64_w,i32_w];rfl
                  refine pure_ (i:=13) (N:=some 89) (v:=?_) (a':=?_) (tf 14 22) rfl rfl (any_of HT_.out (by kernel_rfl)) (fun _ _ _ h=>h) (Or.inl ⟨by rfl,?_⟩) ?_ ?_;rotate_left
                  ·intro w';go_simp;with_reducible rfl
                  rotate_left
                  ·simp only [Act.put,s1,s2,s3,i64_w,i32_w];rfl
                  refine pure_ (i:=14) (N:=some 90) (v:=?_) (a':=?_) (tf 15 21) rfl rfl (any_of HT_.out (by kernel_rfl)) (fun _ _ _ h=>h) (Or.inl ⟨by rfl,?_⟩) ?_ ?_;rotate_left
                  ·intro w';go_simp;with_reducible rfl
                  rotate_left
                  ·simp only [Act.put,s1,s2,s3,i64_w,i32_w];rfl
                  refine pure_ (i:=15) (N:=some 91) (v:=?_) (a':=?_) (tf 16 20) rfl rfl (any_of HT_.out (by kernel_rfl)) (fun _ _ _ h=>h) (Or.inl ⟨by rfl,?_⟩) ?_ ?_;rotate_left
                  ·intro w';go_simp;with_reducible rfl
                  rotate_left
                  ·simp only [Act.put,s1,s2,s3,i64_w,i32_w];rfl
                  refine take_ (i:=16) (N:=some 92) (v:=?_) (a':=?_) (tf 17 19) rfl rfl (take_ofW HT_.out HW_.out (by kernel_rfl)) (fun _ _ _ h=>h) (Or.inl ⟨by rfl,?_⟩) hHeld ?_ ?_;rotate_left
                  ·rintro w' ⟨s0,s1,s2,s3,s4,s5,s6,s7,s8,s9,s10,s11,s12,s13,s14,s15,s16,s17,s18,s19,s20,s21,s22,s23,s24,s25⟩;go_simp;with_reducible rfl
                  rotate_left
                  ·simp only [Act.put,s1,s2,s3,i64_w,i32_w];rfl
                  refine pure_ (i:=17) (N:=some 93) (v:=?_) (a':=?_) (tf 18 18) rfl rfl (any_of HT_.out (by kernel_rfl)) (fun _ _ _ h=>h) (Or.inl ⟨by rfl,?_⟩) ?_ ?_;rotate_left
                  ·intro w';go_simp;with_reducible rfl
                  rotate_left
                  ·simp only [Act.put,s1,s2,s3,i64_w,i32_w];rfl
                  refine pure_ (i:=18) (N:=some 94) (v:=?_) (a':=?_) (tf 19 17) rfl rfl (any_of HT_.out (by kernel_rfl)) (fun _ _ _ h=>h) (Or.inl ⟨by rfl,?_⟩) ?_ ?_;rotate_left
                  ·intro w';go_simp;with_reducible rfl
                  rotate_left
                  ·simp only [Act.put,s1,s2,s3,i64_w,i32_w];rfl
                  refine pure_ (i:=19) (N:=some 95) (v:=?_) (a':=?_) (tf 20 16) rfl rfl (any_of HT_.out (by kernel_rfl)) (fun _ _ _ h=>h) (Or.inl ⟨by rfl,?_⟩) ?_ ?_;rotate_left
                  ·intro w';go_simp;with_reducible rfl
                  rotate_left
                  ·simp only [Act.put,s1,s2,s3,i64_w,i32_w];rfl
                  refine pure_ (i:=20) (N:=some 96) (v:=?_) (a':=?_) (tf 21 15) rfl rfl (any_of HT_.out (by kernel_rfl)) (fun _ _ _ h=>h) (Or.inl ⟨by rfl,?_⟩) ?_ ?_;rotate_left
                  ·intro w';go_simp;with_reducible rfl
                  rotate_left
                  ·simp only [Act.put,s1,s2,s3,i64_w,i32_w];rfl
                  refine pure_ (i:=21) (N:=some 97) (v:=?_) (a':=?_) (tf 22 14) rfl rfl (any_of HT_.out (by kernel_rfl)) (fun _ _ _ h=>h) (Or.inl ⟨by rfl,?_⟩) ?_ ?_;rotate_left
                  ·intro w';go_simp;with_reducible rfl
                  rotate_left
                  ·simp only [Act.put,s1,s2,s3,i64_w,i32_w];rfl
                  refine pure_ (i:=22) (N:=some 98) (v:=?_) (a':=?_) (tf 23 13) rfl rfl (any_of HT_.out (by kernel_rfl)) (fun _ _ _ h=>h) (Or.inl ⟨by rfl,?_⟩) ?_ ?_;rotate_left
                  ·intro w';go_simp;with_reducible rfl
                  rotate_left
                  ·simp only [Act.put,s1,s2,s3,i64_w,i32_w];rfl
                  refine pure_ (i:=23) (N:=some 99) (v:=?_) (a':=?_) (tf 24 12) rfl rfl (any_of HT_.out (by kernel_rfl)) (fun _ _ _ h=>h) (Or.inl ⟨by rfl,?_⟩) ?_ ?_;rotate_left
                  ·intro w';go_simp;with_reducible rfl
                  rotate_left
                  ·simp only [Act.put,s1,s2,s3,i64_w,i32_w];rfl
                  refine pure_ (i:=24) (N:=some 100) (v:=?_) (a':=?_) (tf 25 11) rfl rfl (any_of HT_.out (by kernel_rfl)) (fun _ _ _ h=>h) (Or.inl ⟨by rfl,?_⟩) ?_ ?_;rotate_left
                  ·intro w';go_simp;with_reducible rfl
                  rotate_left
                  ·simp only [Act.put,s1,s2,s3,i64_w,i32_w];rfl
                  refine pure_ (i:=28) (N:=some 104) (v:=?_) (a':=?_) #[true,true,true,true,true,true,true,true,true,true,true,true,true,true,true,true,true,true,true,true,true,true,true,true,true,false,false,false,true,false,false,false,false,false,false,false] rfl rfl (any_of HT_.out (by kernel_rfl)) (fun _ _ _ h=>h) (Or.inl ⟨by rfl,?_⟩) ?_ ?_;rotate_left
                  ·intro w';go_simp;with_reducible rfl
                  rotate_left
                  ·simp only [Act.put,s1,s2,s3,i64_w,i32_w];rfl
                  refine pure_ (i:=29) (N:=some 105) (v:=?_) (a':=?_) #[true,true,true,true,true,true,true,true,true,true,true,true,true,true,true,true,true,true,true,true,true,true,true,true,true,false,false,false,true,true,false,false,false,false,false,false] rfl rfl (any_of HT_.out (by kernel_rfl)) (fun _ _ _ h=>h) (Or.inl ⟨by rfl,?_⟩) ?_ ?_;rotate_left
                  ·intro w';go_simp;with_reducible rfl
                  rotate_left
                  ·simp only [Act.put,s1,s2,s3,i64_w,i32_w];rfl
                  refine pure_ (i:=30) (N:=some 106) (v:=?_) (a':=?_) #[true,true,true,true,true,true,true,true,true,true,true,true,true,true,true,true,true,true,true,true,true,true,true,true,true,false,false,false,true,true,true,false,false,false,false,false] rfl rfl (any_of HT_.out (by kernel_rfl)) (fun _ _ _ h=>h) (Or.inl ⟨by rfl,?_⟩) ?_ ?_;rotate_left
                  ·intro w';go_simp;with_reducible rfl
                  rotate_left
                  ·simp only [Act.put,s1,s2,s3,i64_w,i32_w];rfl
                  refine pure_ (i:=31) (N:=some 107) (v:=?_) (a':=?_) #[true,true,true,true,true,true,true,true,true,true,true,true,true,true,true,true,true,true,true,true,true,true,true,true,true,false,false,false,true,true,true,true,false,false,false,false] rfl rfl (any_of HT_.out (by kernel_rfl)) (fun _ _ _ h=>h) (Or.inl ⟨by rfl,?_⟩) ?_ ?_;rotate_left
                  ·intro w';go_simp;with_reducible rfl
                  rotate_left
                  ·simp only [Act.put,s1,s2,s3,i64_w,i32_w];rfl
                  refine take_ (i:=25) (N:=some 101) (v:=?_) (a':=?_) #[true,true,true,true,true,true,true,true,true,true,true,true,true,true,true,true,true,true,true,true,true,true,true,true,true,true,false,false,true,true,true,true,false,false,false,false] rfl rfl (take_ofW HT_.out HW_.out (by kernel_rfl)) (fun _ _ _ h=>h) (Or.inl ⟨by rfl,?_⟩) hHeld ?_ ?_;rotate_left
                  ·rintro w' ⟨s0,s1,s2,s3,s4,s5,s6,s7,s8,s9,s10,s11,s12,s13,s14,s15,s16,s17,s18,s19,s20,s21,s22,s23,s24,s25⟩;go_simp;with_reducible rfl
                  rotate_left
                  ·simp only [Act.put,s1,s2,s3,i64_w,i32_w];rfl
                  refine pure_ (i:=26) (N:=some 102) (v:=?_) (a':=?_) #[true,true,true,true,true,true,true,true,true,true,true,true,true,true,true,true,true,true,true,true,true,true,true,true,true,true,true,false,true,true,true,true,false,false,false,false] rfl rfl (any_of HT_.out (by kernel_rfl)) (fun _ _ _ h=>h) (Or.inl ⟨by rfl,?_⟩) ?_ ?_;rotate_left
                  ·intro w';go_simp;with_reducible rfl
                  rotate_left
                  ·simp only [Act.put,s1,s2,s3,i64_w,i32_w];rfl
                  refine take_ (i:=27) (N:=some 103) (v:=?_) (a':=?_) (tf 32 4) rfl rfl (take_ofW HT_.out HW_.out (by kernel_rfl)) (fun _ _ _ h=>h) (Or.inl ⟨by rfl,?_⟩) hHeld ?_ ?_;rotate_left
                  ·rintro w' ⟨s0,s1,s2,s3,s4,s5,s6,s7,s8,s9,s10,s11,s12,s13,s14,s15,s16,s17,s18,s19,s20,s21,s22,s23,s24,s25⟩;go_simp;with_reducible rfl
                  rotate_left
                  ·simp only [Act.put,s1,s2,s3,i64_w,i32_w];rfl
                  refine take_ (i:=32) (N:=some 108) (v:=?_) (a':=?_) (tf 33 3) rfl rfl (take_ofW HT_.out HW_.out (by kernel_rfl)) (fun _ _ _ h=>h) (Or.inl ⟨by rfl,?_⟩) hHeld ?_ ?_;rotate_left
                  ·rintro w' ⟨s0,s1,s2,s3,s4,s5,s6,s7,s8,s9,s10,s11,s12,s13,s14,s15,s16,s17,s18,s19,s20,s21,s22,s23,s24,s25⟩;go_simp;with_reducible rfl
                  rotate_left
                  ·simp only [Act.put,s1,s2,s3,i64_w,i32_w];rfl
                  refine pure_ (i:=33) (N:=some 109) (v:=?_) (a':=?_) (tf 34 2) rfl rfl (any_of HT_.out (by kernel_rfl)) (fun _ _ _ h=>h) (Or.inl ⟨by rfl,?_⟩) ?_ ?_;rotate_left
                  ·intro w';go_simp;with_reducible rfl
                  rotate_left
                  ·simp only [Act.put,s1,s2,s3,i64_w,i32_w];rfl
                  refine pure_ (i:=34) (N:=some 110) (v:=?_) (a':=?_) (tf 35 1) rfl rfl (any_of HT_.out (by kernel_rfl)) (fun _ _ _ h=>h) (Or.inl ⟨by rfl,?_⟩) ?_ ?_;rotate_left
                  ·intro w';go_simp;with_reducible rfl
                  rotate_left
                  ·simp only [Act.put,s1,s2,s3,i64_w,i32_w];rfl
                  refine pure_ (i:=35) (N:=some 111) (v:=?_) (a':=?_) (tf 36 0) rfl rfl (any_of HT_.out (by kernel_rfl)) (fun _ _ _ h=>h) (Or.inl ⟨by rfl,?_⟩) ?_ ?_;rotate_left
                  ·intro w';go_simp;with_reducible rfl
                  rotate_left
                  ·simp only [Act.put,s1,s2,s3,i64_w,i32_w];rfl
                  refine done_ (done_of HT_.out (by kernel_rfl)) ?_
                  try go_wp2
                  go_roundg k3
                  case measure=>have:=HJ2.out;have:=HK2.out;have:=HK3.out;omega
                  case rel=>exact ⟨(wrap64 (A2 + 1)),(by first|rfl|(simp;done)|(simp [*];done)),(by first|exact H'|(rw [hji6];exact H')),⟨by have:=HJ2.out;have:=HK2.out;have:=HK3.out;omega⟩,⟨ra A6⟩,⟨ra A7⟩,⟨by exact tb HB⟩⟩
                 ·rw [if_neg c41] at H;have c41b0:((rd A5 ((rd_T99 l1 A2).f2)) == ((rd_T99 l1 A2).f1))=false:=beq_eq_false_iff_ne.mpr c41;have c41b1:((rd A5 ((rd_T99 l1 A2).f2)) != ((rd_T99 l1 A2).f1))=true:=bne_iff_ne.mpr c41;obtain rfl:=os H
                  try go_wp2
                  have n0_:=Aside0.mk (Kd.R_drew A6.out);have n1_:=Aside0.mk (Kd.R_drew A7.out);have n2_:=Aside0.mk (below_drew1 HB.out);clear A6;clear A7;clear HB;have A6:=n0_;have A7:=n1_;have HB:=n2_;clear n0_ n1_ n2_;have p118:0≤(A2:Int):=od;have q118:A2 < (l1.length:Int):=od;obtain ⟨ad118,e118,hx118_0,hx118_1,hx118_2,hx118_3,hx118_4,hx118_5⟩:=at_T99 HR1.out A2 p118 q118;have hw118_5:=hx118_5;have hw118_4:=hx118_4;have hw118_3:=hx118_3;have hw118_2:=hx118_2;have hw118_1:=hx118_1;have hw118_0:=hx118_0;cases e118;replace hx118_0:=ct HB hx118_0;replace hx118_1:=ct HB hx118_1;replace hx118_2:=ct HB hx118_2;replace hx118_3:=ct HB hx118_3;replace hx118_4:=ct HB hx118_4;replace hx118_5:=ct HB hx118_5;replace p118:=eq_true p118;replace q118:=eq_true q118;have p120:0≤(A2:Int):=od;have q120:A2 < (A8.length:Int):=od
                  (try (obtain ⟨Aq_,cq_,eq_⟩:=Kd.R_slice A7.out;subst eq_))
                  obtain ⟨ad120,e120,hx120_0⟩:=Kd.at_bool (Kd.R_reads' A7.out).2.2 A2 p120 q120
                  (try rw [← Nbq36.out] at hx120_0)
                  cases e120;replace p120:=eq_true p120;replace q120:=eq_true q120;have p121:0≤(A2:Int):=od;have q121:A2 < (l1.length:Int):=od;obtain ⟨ad121,e121,hx121_0,hx121_1,hx121_2,hx121_3,hx121_4,hx121_5⟩:=at_T99 HR1.out A2 p121 q121;have hw121_5:=hx121_5;have hw121_4:=hx121_4;have hw121_3:=hx121_3;have hw121_2:=hx121_2;have hw121_1:=hx121_1;have hw121_0:=hx121_0;obtain rfl:ad118=ad121:=(by injection e121);replace hx121_0:=ct HB hx121_0;replace hx121_1:=ct HB hx121_1;replace hx121_2:=ct HB hx121_2;replace hx121_3:=ct HB hx121_3;replace hx121_4:=ct HB hx121_4;replace hx121_5:=ct HB hx121_5;replace p121:=eq_true p121;replace q121:=eq_true q121;have p122:0≤(A2:Int):=od;have q122:A2 < (l1.length:Int):=od;obtain ⟨ad122,e122,hx122_0,hx122_1,hx122_2,hx122_3,hx122_4,hx122_5⟩:=at_T99 HR1.out A2 p122 q122;have hw122_5:=hx122_5;have hw122_4:=hx122_4;have hw122_3:=hx122_3;have hw122_2:=hx122_2;have hw122_1:=hx122_1;have hw122_0:=hx122_0;obtain rfl:ad118=ad122:=(by injection e122);replace hx122_0:=ct HB hx122_0;replace hx122_1:=ct HB hx122_1;replace hx122_2:=ct HB hx122_2;replace hx122_3:=ct HB hx122_3;replace hx122_4:=ct HB hx122_4;replace hx122_5:=ct HB hx122_5;replace p122:=eq_true p122;replace q122:=eq_true q122;have p123:0≤(((rd_T99 l1 A2).f2):Int):=od;have q123:((rd_T99 l1 A2).f2) < (A5.length:Int):=od
                  (try (obtain ⟨Aq_,cq_,eq_⟩:=Kd.R_slice A6.out;subst eq_))
                  obtain ⟨ad123,e123,hx123_0⟩:=Kd.at_int (Kd.R_reads' A6.out).2.2 ((rd_T99 l1 A2).f2) p123 q123;cases e123;replace p123:=eq_true p123;replace q123:=eq_true q123;have p124:0≤(A2:Int):=od;have q124:A2 < (l1.length:Int):=od;obtain ⟨ad124,e124,hx124_0,hx124_1,hx124_2,hx124_3,hx124_4,hx124_5⟩:=at_T99 HR1.out A2 p124 q124;have hw124_5:=hx124_5;have hw124_4:=hx124_4;have hw124_3:=hx124_3;have hw124_2:=hx124_2;have hw124_1:=hx124_1;have hw124_0:=hx124_0;obtain rfl:ad118=ad124:=(by injection e124);replace hx124_0:=ct HB hx124_0;replace hx124_1:=ct HB hx124_1;replace hx124_2:=ct HB hx124_2;replace hx124_3:=ct HB hx124_3;replace hx124_4:=ct HB hx124_4;replace hx124_5:=ct HB hx124_5;replace p124:=eq_true p124;replace q124:=eq_true q124
                  refine start_ (n:=36) (S:=fun w'=>w'.cell? (ad118.add ((A2).toNat * 6))=some (.int .i64 ((rd_T99 l1 A2).f0))∧w'.cell? ⟨(ad118.add ((A2).toNat * 6)).block,(ad118.add ((A2).toNat * 6)).off + 1,none⟩=some (.int .i64 ((rd_T99 l1 A2).f1))∧w'.cell? ⟨(ad118.add ((A2).toNat * 6)).block,(ad118.add ((A2).toNat * 6)).off + 2,none⟩=some (.int .i64 ((rd_T99 l1 A2).f2))∧w'.cell? ⟨(ad118.add ((A2).toNat * 6)).block,(ad118.add ((A2).toNat * 6)).off + 3,none⟩=some (.int .i64 ((rd_T99 l1 A2).f3))∧w'.cell? ⟨(ad118.add ((A2).toNat * 6)).block,(ad118.add ((A2).toNat * 6)).off + 4,none⟩=some (.int .i64 ((rd_T99 l1 A2).f4))∧w'.cell? ⟨(ad118.add ((A2).toNat * 6)).block,(ad118.add ((A2).toNat * 6)).off + 5,none⟩=some (.int .i64 ((rd_T99 l1 A2).f5))∧w'.cell? (ad120.add (A2).toNat)=some (.bool true)∧w'.cell? (ad118.add ((A2).toNat * 6))=some (.int .i64 ((rd_T99 l1 A2).f0))∧w'.cell? ⟨(ad118.add ((A2).toNat * 6)).block,(ad118.add ((A2).toNat * 6)).off + 1,none⟩=some (.int .i64 ((rd_T99 l1 A2).f1))∧w'.cell? ⟨(ad118.add ((A2).toNat * 6)).block,(ad118.add ((A2).toNat * 6)).off + 2,none⟩=some (.int .i64 ((rd_T99 l1 A2).f2))∧w'.cell? ⟨(ad118.add ((A2).toNat * 6)).block,(ad118.add ((A2).toNat * 6)).off + 3,none⟩=some (.int .i64 ((rd_T99 l1 A2).f3))∧w'.cell? ⟨(ad118.add ((A2).toNat * 6)).block,(ad118.add ((A2).toNat * 6)).off + 4,none⟩=some (.int .i64 ((rd_T99 l1 A2).f4))∧w'.cell? ⟨(ad118.add ((A2).toNat * 6)).block,(ad118.add ((A2).toNat * 6)).off + 5,none⟩=some (.int .i64 ((rd_T99 l1 A2).f5))∧w'.cell? (ad118.add ((A2).toNat * 6))=some (.int .i64 ((rd_T99 l1 A2).f0))∧w'.cell? ⟨(ad118.add ((A2).toNat * 6)).block,(ad118.add ((A2).toNat * 6)).off + 1,none⟩=some (.int .i64 ((rd_T99 l1 A2).f1))∧w'.cell? ⟨(ad118.add ((A2).toNat * 6)).block,(ad118.add ((A2).toNat * 6)).off + 2,none⟩=some (.int .i64 ((rd_T99 l1 A2).f2))∧w'.cell? ⟨(ad118.add ((A2).toNat * 6)).block,(ad118.add ((A2).toNat * 6)).off + 3,none⟩=some (.int .i64 ((rd_T99 l1 A2).f3))∧w'.cell? ⟨(ad118.add ((A2).toNat * 6)).block,(ad118.add ((A2).toNat * 6)).off + 4,none⟩=some (.int .i64 ((rd_T99 l1 A2).f4))∧w'.cell? ⟨(ad118.add ((A2).toNat * 6)).block,(ad118.add ((A2).toNat * 6)).off + 5,none⟩=some (.int .i64 ((rd_T99 l1 A2).f5))∧w'.cell? (ad123.add (((rd_T99 l1 A2).f2)).toNat)=some (.int .i64 (rd A5 ((rd_T99 l1 A2).f2)))∧w'.cell? (ad118.add ((A2).toNat * 6))=some (.int .i64 ((rd_T99 l1 A2).f0))∧w'.cell? ⟨(ad118.add ((A2).toNat * 6)).block,(ad118.add ((A2).toNat * 6)).off + 1,none⟩=some (.int .i64 ((rd_T99 l1 A2).f1))∧w'.cell? ⟨(ad118.add ((A2).toNat * 6)).block,(ad118.add ((A2).toNat * 6)).off + 2,none⟩=some (.int .i64 ((rd_T99 l1 A2).f2))∧w'.cell? ⟨(ad118.add ((A2).toNat * 6)).block,(ad118.add ((A2).toNat * 6)).off + 3,none⟩=some (.int .i64 ((rd_T99 l1 A2).f3))∧w'.cell? ⟨(ad118.add ((A2).toNat * 6)).block,(ad118.add ((A2).toNat * 6)).off + 4,none⟩=some (.int .i64 ((rd_T99 l1 A2).f4))∧w'.cell? ⟨(ad118.add ((A2).toNat * 6)).block,(ad118.add ((A2).toNat * 6)).off + 5,none⟩=some (.int .i64 ((rd_T99 l1 A2).f5))) (ds:=[]) (tf 0 36) (by kernel_rfl) rfl rfl ⟨(ct HB hw118_0 :),(ct HB hw118_1 :),(ct HB hw118_2 :),(ct HB hw118_3 :),(ct HB hw118_4 :),(ct HB hw118_5 :),hx120_0,(ct HB hw121_0 :),(ct HB hw121_1 :),(ct HB hw121_2 :),(ct HB hw121_3 :),(ct HB hw121_4 :),(ct HB hw121_5 :),(ct HB hw122_0 :),(ct HB hw122_1 :),(ct HB hw122_2 :),(ct HB hw122_3 :),(ct HB hw122_4 :),(ct HB hw122_5 :),hx123_0,(ct HB hw124_0 :),(ct HB hw124_1 :),(ct HB hw124_2 :),(ct HB hw124_3 :),(ct HB hw124_4 :),(ct HB hw124_5 :)⟩ (fun hHeld=>?_);refine with_tabW spec_FrontOk.tab14 spec_FrontOk.bits14 (fun HT_ HW_=>?_)
                  generalize wr.drew=w45 at A6 A7 HB hx118_0 hx118_1 hx118_2 hx118_3 hx118_4 hx118_5 hx120_0 hx121_0 hx121_1 hx121_2 hx121_3 hx121_4 hx121_5 hx122_0 hx122_1 hx122_2 hx122_3 hx122_4 hx122_5 hx123_0 hx124_0 hx124_1 hx124_2 hx124_3 hx124_4 hx124_5 hHeld ⊢;refine pure_ (i:=0) (N:=some 76) (v:=?_) (a':=?_) (tf 1 35) rfl rfl (any_of HT_.out (by kernel_rfl)) (fun _ _ _ h=>h) (Or.inl ⟨by rfl,?_⟩) ?_ ?_;rotate_left
                  ·intro w';go_simp;with_reducible rfl
                  rotate_left
                  ·simp only [Act.put,s1,s2,s3,i64_w,i32_w];rfl
                  refine pure_ (i:=1) (N:=some 77) (v:=?_) (a':=?_) (tf 2 34) rfl rfl (any_of HT_.out (by kernel_rfl)) (fun _ _ _ h=>h) (Or.inl ⟨by rfl,?_⟩) ?_ ?_;rotate_left
                  ·intro w';go_simp;with_reducible rfl
                  rotate_left
                  ·simp only [Act.put,s1,s2,s3,i64_w,i32_w];rfl
                  refine pure_ (i:=2) (N:=some 78) (v:=?_) (a':=?_) (tf 3 33) rfl rfl (any_of HT_.out (by kernel_rfl)) (fun _ _ _ h=>h) (Or.inl ⟨by rfl,?_⟩) ?_ ?_;rotate_left
                  ·intro w';go_simp;with_reducible rfl
                  rotate_left
                  ·simp only [Act.put,s1,s2,s3,i64_w,i32_w];rfl
                  refine pure_ (i:=3) (N:=some 79) (v:=?_) (a':=?_) (tf 4 32) rfl rfl (any_of HT_.out (by kernel_rfl)) (fun _ _ _ h=>h) (Or.inl ⟨by rfl,?_⟩) ?_ ?_;rotate_left
                  ·intro w';go_simp;with_reducible rfl
                  rotate_left
                  ·simp only [Act.put,s1,s2,s3,i64_w,i32_w];rfl
                  refine take_ (i:=4) (N:=some 80) (v:=?_) (a':=?_) (tf 5 31) rfl rfl (take_ofW HT_.out HW_.out (by kernel_rfl)) (fun _ _ _ h=>h) (Or.inl ⟨by rfl,?_⟩) hHeld ?_ ?_;rotate_left
                  ·rintro w' ⟨s0,s1,s2,s3,s4,s5,s6,s7,s8,s9,s10,s11,s12,s13,s14,s15,s16,s17,s18,s19,s20,s21,s22,s23,s24,s25⟩;go_simp;with_reducible rfl
                  rotate_left
                  ·simp only [Act.put,s1,s2,s3,i64_w,i32_w];rfl
                  refine one_ (i:=5) (N:=some 81) (tf 6 30) rfl rfl (one_of HT_.out (by kernel_rfl)) (by decide) (fun K hK=>?_);refine goes_ Try.func103 (by kernel_rfl) rfl #[.int .i64 ((rd_T99 l1 A2).f0)] (by rfl) rfl rfl ml ?_
                  with_reducible refine (spec_l02Quant.calls ((rd_T99 l1 A2).f0) false _ A32.out).mono ?_
                  rintro e w' ⟨rfl,⟨nd,rfl⟩⟩;refine ⟨_,rfl,?_⟩;obtain ⟨Ao46,co46,eo46⟩:=Kd.R_slice A7.out;(first|subst eo46|(injection eo46 with f1_ f2_ f3_;have f4_:=f1_.symm;have f5_:=f3_.symm;clear f1_ f2_ f3_;subst f4_;subst f5_));obtain ⟨Ao47,co47,eo47⟩:=Kd.R_slice A6.out;(first|subst eo47|(injection eo47 with f1_ f2_ f3_;have f4_:=f1_.symm;have f5_:=f3_.symm;clear f1_ f2_ f3_;subst f4_;subst f5_));refine hK.out _ _ ⟨(ct HB hw118_0 :),(ct HB hw118_1 :),(ct HB hw118_2 :),(ct HB hw118_3 :),(ct HB hw118_4 :),(ct HB hw118_5 :),hHeld.2.2.2.2.2.2.1,(ct HB hw121_0 :),(ct HB hw121_1 :),(ct HB hw121_2 :),(ct HB hw121_3 :),(ct HB hw121_4 :),(ct HB hw121_5 :),(ct HB hw122_0 :),(ct HB hw122_1 :),(ct HB hw122_2 :),(ct HB hw122_3 :),(ct HB hw122_4 :),(ct HB hw122_5 :),hHeld.2.2.2.2.2.2.2.2.2.2.2.2.2.2.2.2.2.2.2.1,(ct HB hw124_0 :),(ct HB hw124_1 :),(ct HB hw124_2 :),(ct HB hw124_3 :),(ct HB hw124_4 :),(ct HB hw124_5 :)⟩ (fun hHeld=>?_);clear hK K;refine norm_ (a':=?_) ?_ ?_;rotate_left
                  ·show Act.put _ (some 81) _=_
                   simp only [Act.put,s1,s2,s3,i64_w,i32_w];rfl
                  refine pure_ (i:=6) (N:=some 82) (v:=?_) (a':=?_) (tf 7 29) rfl rfl (any_of HT_.out (by kernel_rfl)) (fun _ _ _ h=>h) (Or.inl ⟨by rfl,?_⟩) ?_ ?_;rotate_left
                  ·intro w';go_simp;with_reducible rfl
                  rotate_left
                  ·simp only [Act.put,s1,s2,s3,i64_w,i32_w];rfl
                  refine pure_ (i:=7) (N:=some 83) (v:=?_) (a':=?_) (tf 8 28) rfl rfl (any_of HT_.out (by kernel_rfl)) (fun _ _ _ h=>h) (Or.inl ⟨by rfl,?_⟩) ?_ ?_;rotate_left
                  ·intro w';go_simp;with_reducible rfl
                  rotate_left
                  ·simp only [Act.put,s1,s2,s3,i64_w,i32_w];rfl
                  refine pure_ (i:=8) (N:=some 84) (v:=?_) (a':=?_) (tf 9 27) rfl rfl (any_of HT_.out (by kernel_rfl)) (fun _ _ _ h=>h) (Or.inl ⟨by rfl,?_⟩) ?_ ?_;rotate_left
                  ·intro w';go_simp;with_reducible rfl
                  rotate_left
                  ·simp only [Act.put,s1,s2,s3,i64_w,i32_w];rfl
                  refine pure_ (i:=9) (N:=some 85) (v:=?_) (a':=?_) (tf 10 26) rfl rfl (any_of HT_.out (by kernel_rfl)) (fun _ _ _ h=>h) (Or.inl ⟨by rfl,?_⟩) ?_ ?_;rotate_left
                  ·intro w';go_simp;with_reducible rfl
                  rotate_left
                  ·simp only [Act.put,s1,s2,s3,i64_w,i32_w];rfl
                  refine take_ (i:=10) (N:=some 86) (v:=?_) (a':=?_) (tf 11 25) rfl rfl (take_ofW HT_.out HW_.out (by kernel_rfl)) (fun _ _ _ h=>h) (Or.inl ⟨by rfl,?_⟩) hHeld ?_ ?_;rotate_left
                  ·rintro w' ⟨s0,s1,s2,s3,s4,s5,s6,s7,s8,s9,s10,s11,s12,s13,s14,s15,s16,s17,s18,s19,s20,s21,s22,s23,s24,s25⟩;go_simp;with_reducible rfl
                  rotate_left
                  ·simp only [Act.put,s1,s2,s3,i64_w,i32_w];rfl
                  refine pure_ (i:=11) (N:=some 87) (v:=?_) (a':=?_) (tf 12 24) rfl rfl (any_of HT_.out (by kernel_rfl)) (fun _ _ _ h=>h) (Or.inl ⟨by rfl,?_⟩) ?_ ?_;rotate_left
                  ·intro w';go_simp;with_reducible rfl
                  rotate_left
                  ·simp only [Act.put,s1,s2,s3,i64_w,i32_w];rfl
                  refine pure_ (i:=12) (N:=some 88) (v:=?_) (a':=?_) (tf 13 23) rfl rfl (any_of HT_.out (by kernel_rfl)) (fun _ _ _ h=>h) (Or.inl ⟨by rfl,?_⟩) ?_ ?_;rotate_left
                  ·intro w';go_simp;with_reducible rfl
                  rotate_left
                  ·simp only [Act.put,s1,s2,s3,i64_w,i32_w];rfl
                  refine pure_ (i:=13) (N:=some 89) (v:=?_) (a':=?_) (tf 14 22) rfl rfl (any_of HT_.out (by kernel_rfl)) (fun _ _ _ h=>h) (Or.inl ⟨by rfl,?_⟩) ?_ ?_;rotate_left
                  ·intro w';go_simp;with_reducible rfl
                  rotate_left
                  ·simp only [Act.put,s1,s2,s3,i64_w,i32_w];rfl
                  refine pure_ (i:=14) (N:=some 90) (v:=?_) (a':=?_) (tf 15 21) rfl rfl (any_of HT_.out (by kernel_rfl)) (fun _ _ _ h=>h) (Or.inl ⟨by rfl,?_⟩) ?_ ?_;rotate_left
                  ·intro w';go_simp;with_reducible rfl
                  rotate_left
                  ·simp only [Act.put,s1,s2,s3,i64_w,i32_w];rfl
                  refine pure_ (i:=15) (N:=some 91) (v:=?_) (a':=?_) (tf 16 20) rfl rfl (any_of HT_.out (by kernel_rfl)) (fun _ _ _ h=>h) (Or.inl ⟨by rfl,?_⟩) ?_ ?_;rotate_left
                  ·intro w';go_simp;with_reducible rfl
                  rotate_left
                  ·simp only [Act.put,s1,s2,s3,i64_w,i32_w];rfl
                  refine take_ (i:=16) (N:=some 92) (v:=?_) (a':=?_) (tf 17 19) rfl rfl (take_ofW HT_.out HW_.out (by kernel_rfl)) (fun _ _ _ h=>h) (Or.inl ⟨by rfl,?_⟩) hHeld ?_ ?_;rotate_left
                  ·rintro w' ⟨s0,s1,s2,s3,s4,s5,s6,s7,s8,s9,s10,s11,s12,s13,s14,s15,s16,s17,s18,s19,s20,s21,s22,s23,s24,s25⟩;go_simp;with_reducible rfl
                  rotate_left
                  ·simp only [Act.put,s1,s2,s3,i64_w,i32_w];rfl
                  refine pure_ (i:=17) (N:=some 93) (v:=?_) (a':=?_) (tf 18 18) rfl rfl (any_of HT_.out (by kernel_rfl)) (fun _ _ _ h=>h) (Or.inl ⟨by rfl,?_⟩) ?_ ?_;rotate_left
                  ·intro w';go_simp;with_reducible rfl
                  rotate_left
                  ·simp only [Act.put,s1,s2,s3,i64_w,i32_w];rfl
                  refine pure_ (i:=18) (N:=some 94) (v:=?_) (a':=?_) (tf 19 17) rfl rfl (any_of HT_.out (by kernel_rfl)) (fun _ _ _ h=>h) (Or.inl ⟨by rfl,?_⟩) ?_ ?_;rotate_left
                  ·intro w';go_simp;with_reducible rfl
                  rotate_left
                  ·simp only [Act.put,s1,s2,s3,i64_w,i32_w];rfl
                  refine pure_ (i:=19) (N:=some 95) (v:=?_) (a':=?_) (tf 20 16) rfl rfl (any_of HT_.out (by kernel_rfl)) (fun _ _ _ h=>h) (Or.inl ⟨by rfl,?_⟩) ?_ ?_;rotate_left
                  ·intro w';go_simp;with_reducible rfl
                  rotate_left
                  ·simp only [Act.put,s1,s2,s3,i64_w,i32_w];rfl
                  refine pure_ (i:=20) (N:=some 96) (v:=?_) (a':=?_) (tf 21 15) rfl rfl (any_of HT_.out (by kernel_rfl)) (fun _ _ _ h=>h) (Or.inl ⟨by rfl,?_⟩) ?_ ?_;rotate_left
                  ·intro w';go_simp;with_reducible rfl
                  rotate_left
                  ·simp only [Act.put,s1,s2,s3,i64_w,i32_w];rfl
                  refine pure_ (i:=21) (N:=some 97) (v:=?_) (a':=?_) (tf 22 14) rfl rfl (any_of HT_.out (by kernel_rfl)) (fun _ _ _ h=>h) (Or.inl ⟨by rfl,?_⟩) ?_ ?_;rotate_left
                  ·intro w';go_simp;with_reducible rfl
                  rotate_left
                  ·simp only [Act.put,s1,s2,s3,i64_w,i32_w];rfl
                  refine pure_ (i:=22) (N:=some 98) (v:=?_) (a':=?_) (tf 23 13) rfl rfl (any_of HT_.out (by kernel_rfl)) (fun _ _ _ h=>h) (Or.inl ⟨by rfl,?_⟩) ?_ ?_;rotate_left
                  ·intro w';go_simp;with_reducible rfl
                  rotate_left
                  ·simp only [Act.put,s1,s2,s3,i64_w,i32_w];rfl
                  refine pure_ (i:=23) (N:=some 99) (v:=?_) (a':=?_) (tf 24 12) rfl rfl (any_of HT_.out (by kernel_rfl)) (fun _ _ _ h=>h) (Or.inl ⟨by rfl,?_⟩) ?_ ?_;rotate_left
                  ·intro w';go_simp;with_reducible rfl
                  rotate_left
                  ·simp only [Act.put,s1,s2,s3,i64_w,i32_w];rfl
                  refine pure_ (i:=24) (N:=some 100) (v:=?_) (a':=?_) (tf 25 11) rfl rfl (any_of HT_.out (by kernel_rfl)) (fun _ _ _ h=>h) (Or.inl ⟨by rfl,?_⟩) ?_ ?_;rotate_left
                  ·intro w';go_simp;with_reducible rfl
                  rotate_left
                  ·simp only [Act.put,s1,s2,s3,i64_w,i32_w];rfl
                  refine pure_ (i:=28) (N:=some 104) (v:=?_) (a':=?_) #[true,true,true,true,true,true,true,true,true,true,true,true,true,true,true,true,true,true,true,true,true,true,true,true,true,false,false,false,true,false,false,false,false,false,false,false] rfl rfl (any_of HT_.out (by kernel_rfl)) (fun _ _ _ h=>h) (Or.inl ⟨by rfl,?_⟩) ?_ ?_;rotate_left
                  ·intro w';go_simp;with_reducible rfl
                  rotate_left
                  ·simp only [Act.put,s1,s2,s3,i64_w,i32_w];rfl
                  refine pure_ (i:=29) (N:=some 105) (v:=?_) (a':=?_) #[true,true,true,true,true,true,true,true,true,true,true,true,true,true,true,true,true,true,true,true,true,true,true,true,true,false,false,false,true,true,false,false,false,false,false,false] rfl rfl (any_of HT_.out (by kernel_rfl)) (fun _ _ _ h=>h) (Or.inl ⟨by rfl,?_⟩) ?_ ?_;rotate_left
                  ·intro w';go_simp;with_reducible rfl
                  rotate_left
                  ·simp only [Act.put,s1,s2,s3,i64_w,i32_w];rfl
                  refine pure_ (i:=30) (N:=some 106) (v:=?_) (a':=?_) #[true,true,true,true,true,true,true,true,true,true,true,true,true,true,true,true,true,true,true,true,true,true,true,true,true,false,false,false,true,true,true,false,false,false,false,false] rfl rfl (any_of HT_.out (by kernel_rfl)) (fun _ _ _ h=>h) (Or.inl ⟨by rfl,?_⟩) ?_ ?_;rotate_left
                  ·intro w';go_simp;with_reducible rfl
                  rotate_left
                  ·simp only [Act.put,s1,s2,s3,i64_w,i32_w];rfl
                  refine pure_ (i:=31) (N:=some 107) (v:=?_) (a':=?_) #[true,true,true,true,true,true,true,true,true,true,true,true,true,true,true,true,true,true,true,true,true,true,true,true,true,false,false,false,true,true,true,true,false,false,false,false] rfl rfl (any_of HT_.out (by kernel_rfl)) (fun _ _ _ h=>h) (Or.inl ⟨by rfl,?_⟩) ?_ ?_;rotate_left
                  ·intro w';go_simp;with_reducible rfl
                  rotate_left
                  ·simp only [Act.put,s1,s2,s3,i64_w,i32_w];rfl
                  refine take_ (i:=25) (N:=some 101) (v:=?_) (a':=?_) #[true,true,true,true,true,true,true,true,true,true,true,true,true,true,true,true,true,true,true,true,true,true,true,true,true,true,false,false,true,true,true,true,false,false,false,false] rfl rfl (take_ofW HT_.out HW_.out (by kernel_rfl)) (fun _ _ _ h=>h) (Or.inl ⟨by rfl,?_⟩) hHeld ?_ ?_;rotate_left
                  ·rintro w' ⟨s0,s1,s2,s3,s4,s5,s6,s7,s8,s9,s10,s11,s12,s13,s14,s15,s16,s17,s18,s19,s20,s21,s22,s23,s24,s25⟩;go_simp;with_reducible rfl
                  rotate_left
                  ·simp only [Act.put,s1,s2,s3,i64_w,i32_w];rfl
                  refine pure_ (i:=26) (N:=some 102) (v:=?_) (a':=?_) #[true,true,true,true,true,true,true,true,true,true,true,true,true,true,true,true,true,true,true,true,true,true,true,true,true,true,true,false,true,true,true,true,false,false,false,false] rfl rfl (any_of HT_.out (by kernel_rfl)) (fun _ _ _ h=>h) (Or.inl ⟨by rfl,?_⟩) ?_ ?_;rotate_left
                  ·intro w';go_simp;with_reducible rfl
                  rotate_left
                  ·simp only [Act.put,s1,s2,s3,i64_w,i32_w];rfl
                  refine take_ (i:=27) (N:=some 103) (v:=?_) (a':=?_) (tf 32 4) rfl rfl (take_ofW HT_.out HW_.out (by kernel_rfl)) (fun _ _ _ h=>h) (Or.inl ⟨by rfl,?_⟩) hHeld ?_ ?_;rotate_left
                  ·rintro w' ⟨s0,s1,s2,s3,s4,s5,s6,s7,s8,s9,s10,s11,s12,s13,s14,s15,s16,s17,s18,s19,s20,s21,s22,s23,s24,s25⟩;go_simp;with_reducible rfl
                  rotate_left
                  ·simp only [Act.put,s1,s2,s3,i64_w,i32_w];rfl
                  refine take_ (i:=32) (N:=some 108) (v:=?_) (a':=?_) (tf 33 3) rfl rfl (take_ofW HT_.out HW_.out (by kernel_rfl)) (fun _ _ _ h=>h) (Or.inl ⟨by rfl,?_⟩) hHeld ?_ ?_;rotate_left
                  ·rintro w' ⟨s0,s1,s2,s3,s4,s5,s6,s7,s8,s9,s10,s11,s12,s13,s14,s15,s16,s17,s18,s19,s20,s21,s22,s23,s24,s25⟩;go_simp;with_reducible rfl
                  rotate_left
                  ·simp only [Act.put,s1,s2,s3,i64_w,i32_w];rfl
                  refine pure_ (i:=33) (N:=some 109) (v:=?_) (a':=?_) (tf 34 2) rfl rfl (any_of HT_.out (by kernel_rfl)) (fun _ _ _ h=>h) (Or.inl ⟨by rfl,?_⟩) ?_ ?_;rotate_left
                  ·intro w';go_simp;with_reducible rfl
                  rotate_left
                  ·simp only [Act.put,s1,s2,s3,i64_w,i32_w];rfl
                  refine pure_ (i:=34) (N:=some 110) (v:=?_) (a':=?_) (tf 35 1) rfl rfl (any_of HT_.out (by kernel_rfl)) (fun _ _ _ h=>h) (Or.inl ⟨by rfl,?_⟩) ?_ ?_;rotate_left
                  ·intro w';go_simp;with_reducible rfl
                  rotate_left
                  ·simp only [Act.put,s1,s2,s3,i64_w,i32_w];rfl
                  refine pure_ (i:=35) (N:=some 111) (v:=?_) (a':=?_) (tf 36 0) rfl rfl (any_of HT_.out (by kernel_rfl)) (fun _ _ _ h=>h) (Or.inl ⟨by rfl,?_⟩) ?_ ?_;rotate_left
                  ·intro w';go_simp;with_reducible rfl
                  rotate_left
                  ·simp only [Act.put,s1,s2,s3,i64_w,i32_w];rfl
                  refine done_ (done_of HT_.out (by kernel_rfl)) ?_
                  try go_wp2
                  go_ret;exact ⟨er,tb HB⟩
                ·rw [if_neg c40] at H;exact absurd H (by simp)
               ·rw [if_neg c39] at H;exact absurd H (by simp)
              ·rw [if_neg c38] at H;have c38b0:(((rd_T99 l1 A2).f0) == 1)=false:=beq_eq_false_iff_ne.mpr c38;have c38b1:(((rd_T99 l1 A2).f0) != 1)=true:=bne_iff_ne.mpr c38;have H':=Aside0.mk H;clear H
               try go_wp2
               have n0_:=Aside0.mk (Kd.R_drew A6.out);have n1_:=Aside0.mk (Kd.R_drew A7.out);have n2_:=Aside0.mk (below_drew1 HB.out);clear A6;clear A7;clear HB;have A6:=n0_;have A7:=n1_;have HB:=n2_;clear n0_ n1_ n2_;have p118:0≤(A2:Int):=od;have q118:A2 < (l1.length:Int):=od;obtain ⟨ad118,e118,hx118_0,hx118_1,hx118_2,hx118_3,hx118_4,hx118_5⟩:=at_T99 HR1.out A2 p118 q118;have hw118_5:=hx118_5;have hw118_4:=hx118_4;have hw118_3:=hx118_3;have hw118_2:=hx118_2;have hw118_1:=hx118_1;have hw118_0:=hx118_0;cases e118;replace hx118_0:=ct HB hx118_0;replace hx118_1:=ct HB hx118_1;replace hx118_2:=ct HB hx118_2;replace hx118_3:=ct HB hx118_3;replace hx118_4:=ct HB hx118_4;replace hx118_5:=ct HB hx118_5;replace p118:=eq_true p118;replace q118:=eq_true q118;have p120:0≤(A2:Int):=od;have q120:A2 < (A8.length:Int):=od
               (try (obtain ⟨Aq_,cq_,eq_⟩:=Kd.R_slice A7.out;subst eq_))
               obtain ⟨ad120,e120,hx120_0⟩:=Kd.at_bool (Kd.R_reads' A7.out).2.2 A2 p120 q120
               (try rw [← Nbq36.out] at hx120_0)
               cases e120;replace p120:=eq_true p120;replace q120:=eq_true q120;have p121:0≤(A2:Int):=od;have q121:A2 < (l1.length:Int):=od;obtain ⟨ad121,e121,hx121_0,hx121_1,hx121_2,hx121_3,hx121_4,hx121_5⟩:=at_T99 HR1.out A2 p121 q121;have hw121_5:=hx121_5;have hw121_4:=hx121_4;have hw121_3:=hx121_3;have hw121_2:=hx121_2;have hw121_1:=hx121_1;have hw121_0:=hx121_0;obtain rfl:ad118=ad121:=(by injection e121);replace hx121_0:=ct HB hx121_0;replace hx121_1:=ct HB hx121_1;replace hx121_2:=ct HB hx121_2;replace hx121_3:=ct HB hx121_3;replace hx121_4:=ct HB hx121_4;replace hx121_5:=ct HB hx121_5;replace p121:=eq_true p121;replace q121:=eq_true q121;refine start_ (n:=36) (S:=fun w'=>w'.cell? (ad118.add ((A2).toNat * 6))=some (.int .i64 ((rd_T99 l1 A2).f0))∧w'.cell? ⟨(ad118.add ((A2).toNat * 6)).block,(ad118.add ((A2).toNat * 6)).off + 1,none⟩=some (.int .i64 ((rd_T99 l1 A2).f1))∧w'.cell? ⟨(ad118.add ((A2).toNat * 6)).block,(ad118.add ((A2).toNat * 6)).off + 2,none⟩=some (.int .i64 ((rd_T99 l1 A2).f2))∧w'.cell? ⟨(ad118.add ((A2).toNat * 6)).block,(ad118.add ((A2).toNat * 6)).off + 3,none⟩=some (.int .i64 ((rd_T99 l1 A2).f3))∧w'.cell? ⟨(ad118.add ((A2).toNat * 6)).block,(ad118.add ((A2).toNat * 6)).off + 4,none⟩=some (.int .i64 ((rd_T99 l1 A2).f4))∧w'.cell? ⟨(ad118.add ((A2).toNat * 6)).block,(ad118.add ((A2).toNat * 6)).off + 5,none⟩=some (.int .i64 ((rd_T99 l1 A2).f5))∧w'.cell? (ad120.add (A2).toNat)=some (.bool true)∧w'.cell? (ad118.add ((A2).toNat * 6))=some (.int .i64 ((rd_T99 l1 A2).f0))∧w'.cell? ⟨(ad118.add ((A2).toNat * 6)).block,(ad118.add ((A2).toNat * 6)).off + 1,none⟩=some (.int .i64 ((rd_T99 l1 A2).f1))∧w'.cell? ⟨(ad118.add ((A2).toNat * 6)).block,(ad118.add ((A2).toNat * 6)).off + 2,none⟩=some (.int .i64 ((rd_T99 l1 A2).f2))∧w'.cell? ⟨(ad118.add ((A2).toNat * 6)).block,(ad118.add ((A2).toNat * 6)).off + 3,none⟩=some (.int .i64 ((rd_T99 l1 A2).f3))∧w'.cell? ⟨(ad118.add ((A2).toNat * 6)).block,(ad118.add ((A2).toNat * 6)).off + 4,none⟩=some (.int .i64 ((rd_T99 l1 A2).f4))∧w'.cell? ⟨(ad118.add ((A2).toNat * 6)).block,(ad118.add ((A2).toNat * 6)).off + 5,none⟩=some (.int .i64 ((rd_T99 l1 A2).f5))) (ds:=[]) (tf 0 36) (by kernel_rfl) rfl rfl ⟨(ct HB hw118_0 :),(ct HB hw118_1 :),(ct HB hw118_2 :),(ct HB hw118_3 :),(ct HB hw118_4 :),(ct HB hw118_5 :),hx120_0,(ct HB hw121_0 :),(ct HB hw121_1 :),(ct HB hw121_2 :),(ct HB hw121_3 :),(ct HB hw121_4 :),(ct HB hw121_5 :)⟩ (fun hHeld=>?_);refine with_tabW spec_FrontOk.tab14 spec_FrontOk.bits14 (fun HT_ HW_=>?_);generalize wr.drew=w48 at A6 A7 HB hx118_0 hx118_1 hx118_2 hx118_3 hx118_4 hx118_5 hx120_0 hx121_0 hx121_1 hx121_2 hx121_3 hx121_4 hx121_5 hHeld ⊢;refine pure_ (i:=0) (N:=some 76) (v:=?_) (a':=?_) (tf 1 35) rfl rfl (any_of HT_.out (by kernel_rfl)) (fun _ _ _ h=>h) (Or.inl ⟨by rfl,?_⟩) ?_ ?_;rotate_left
               ·intro w';go_simp;with_reducible rfl
               rotate_left
               ·simp only [Act.put,s1,s2,s3,i64_w,i32_w];rfl
               refine pure_ (i:=1) (N:=some 77) (v:=?_) (a':=?_) (tf 2 34) rfl rfl (any_of HT_.out (by kernel_rfl)) (fun _ _ _ h=>h) (Or.inl ⟨by rfl,?_⟩) ?_ ?_;rotate_left
               ·intro w';go_simp;with_reducible rfl
               rotate_left
               ·simp only [Act.put,s1,s2,s3,i64_w,i32_w];rfl
               refine pure_ (i:=2) (N:=some 78) (v:=?_) (a':=?_) (tf 3 33) rfl rfl (any_of HT_.out (by kernel_rfl)) (fun _ _ _ h=>h) (Or.inl ⟨by rfl,?_⟩) ?_ ?_;rotate_left
               ·intro w';go_simp;with_reducible rfl
               rotate_left
               ·simp only [Act.put,s1,s2,s3,i64_w,i32_w];rfl
               refine pure_ (i:=3) (N:=some 79) (v:=?_) (a':=?_) (tf 4 32) rfl rfl (any_of HT_.out (by kernel_rfl)) (fun _ _ _ h=>h) (Or.inl ⟨by rfl,?_⟩) ?_ ?_;rotate_left
               ·intro w';go_simp;with_reducible rfl
               rotate_left
               ·simp only [Act.put,s1,s2,s3,i64_w,i32_w];rfl
               refine take_ (i:=4) (N:=some 80) (v:=?_) (a':=?_) (tf 5 31) rfl rfl (take_ofW HT_.out HW_.out (by kernel_rfl)) (fun _ _ _ h=>h) (Or.inl ⟨by rfl,?_⟩) hHeld ?_ ?_;rotate_left
               ·rintro w' ⟨s0,s1,s2,s3,s4,s5,s6,s7,s8,s9,s10,s11,s12⟩;go_simp;with_reducible rfl
               rotate_left
               ·simp only [Act.put,s1,s2,s3,i64_w,i32_w];rfl
               refine one_ (i:=5) (N:=some 81) (tf 6 30) rfl rfl (one_of HT_.out (by kernel_rfl)) (by decide) (fun K hK=>?_);refine goes_ Try.func103 (by kernel_rfl) rfl #[.int .i64 ((rd_T99 l1 A2).f0)] (by rfl) rfl rfl ml ?_
               with_reducible refine (spec_l02Quant.calls ((rd_T99 l1 A2).f0) false _ A32.out).mono ?_
               rintro e w' ⟨rfl,⟨nd,rfl⟩⟩;refine ⟨_,rfl,?_⟩;obtain ⟨Ao49,co49,eo49⟩:=Kd.R_slice A7.out;(first|subst eo49|(injection eo49 with f1_ f2_ f3_;have f4_:=f1_.symm;have f5_:=f3_.symm;clear f1_ f2_ f3_;subst f4_;subst f5_));refine hK.out _ _ ⟨(ct HB hw118_0 :),(ct HB hw118_1 :),(ct HB hw118_2 :),(ct HB hw118_3 :),(ct HB hw118_4 :),(ct HB hw118_5 :),hHeld.2.2.2.2.2.2.1,(ct HB hw121_0 :),(ct HB hw121_1 :),(ct HB hw121_2 :),(ct HB hw121_3 :),(ct HB hw121_4 :),(ct HB hw121_5 :)⟩ (fun hHeld=>?_);clear hK K;refine norm_ (a':=?_) ?_ ?_;rotate_left
               ·show Act.put _ (some 81) _=_
                simp only [Act.put,s1,s2,s3,i64_w,i32_w];rfl
               refine pure_ (i:=6) (N:=some 82) (v:=?_) (a':=?_) (tf 7 29) rfl rfl (any_of HT_.out (by kernel_rfl)) (fun _ _ _ h=>h) (Or.inl ⟨by rfl,?_⟩) ?_ ?_;rotate_left
               ·intro w';go_simp;with_reducible rfl
               rotate_left
               ·simp only [Act.put,s1,s2,s3,i64_w,i32_w];rfl
               refine pure_ (i:=7) (N:=some 83) (v:=?_) (a':=?_) (tf 8 28) rfl rfl (any_of HT_.out (by kernel_rfl)) (fun _ _ _ h=>h) (Or.inl ⟨by rfl,?_⟩) ?_ ?_;rotate_left
               ·intro w';go_simp;with_reducible rfl
               rotate_left
               ·simp only [Act.put,s1,s2,s3,i64_w,i32_w];rfl
               refine pure_ (i:=8) (N:=some 84) (v:=?_) (a':=?_) (tf 9 27) rfl rfl (any_of HT_.out (by kernel_rfl)) (fun _ _ _ h=>h) (Or.inl ⟨by rfl,?_⟩) ?_ ?_;rotate_left
               ·intro w';go_simp;with_reducible rfl
               rotate_left
               ·simp only [Act.put,s1,s2,s3,i64_w,i32_w];rfl
               refine pure_ (i:=9) (N:=some 85) (v:=?_) (a':=?_) (tf 10 26) rfl rfl (any_of HT_.out (by kernel_rfl)) (fun _ _ _ h=>h) (Or.inl ⟨by rfl,?_⟩) ?_ ?_;rotate_left
               ·intro w';go_simp;with_reducible rfl
               rotate_left
               ·simp only [Act.put,s1,s2,s3,i64_w,i32_w];rfl
               refine take_ (i:=10) (N:=some 86) (v:=?_) (a':=?_) (tf 11 25) rfl rfl (take_ofW HT_.out HW_.out (by kernel_rfl)) (fun _ _ _ h=>h) (Or.inl ⟨by rfl,?_⟩) hHeld ?_ ?_;rotate_left
               ·rintro w' ⟨s0,s1,s2,s3,s4,s5,s6,s7,s8,s9,s10,s11,s12⟩;go_simp;with_reducible rfl
               rotate_left
               ·simp only [Act.put,s1,s2,s3,i64_w,i32_w];rfl
               refine pure_ (i:=11) (N:=some 87) (v:=?_) (a':=?_) (tf 12 24) rfl rfl (any_of HT_.out (by kernel_rfl)) (fun _ _ _ h=>h) (Or.inl ⟨by rfl,?_⟩) ?_ ?_;rotate_left
               ·intro w';go_simp;with_reducible rfl
               rotate_left
               ·simp only [Act.put,s1,s2,s3,i64_w,i32_w];rfl
               refine pure_ (i:=12) (N:=some 88) (v:=?_) (a':=?_) (tf 13 23) rfl rfl (any_of HT_.out (by kernel_rfl)) (fun _ _ _ h=>h) (Or.inl ⟨by rfl,?_⟩) ?_ ?_;rotate_left
               ·intro w';go_simp;with_reducible rfl
               rotate_left
               ·simp only [Act.put,s1,s2,s3,i64_w,i32_w];rfl
               refine pure_ (i:=13) (N:=some 89) (v:=?_) (a':=?_) (tf 14 22) rfl rfl (any_of HT_.out (by kernel_rfl)) (fun _ _ _ h=>h) (Or.inl ⟨by rfl,?_⟩) ?_ ?_;rotate_left
               ·intro w';go_simp;with_reducible rfl
               rotate_left
               ·simp only [Act.put,s1,s2,s3,i64_w,i32_w];rfl
               refine pure_ (i:=14) (N:=some 90) (v:=?_) (a':=?_) (tf 15 21) rfl rfl (any_of HT_.out (by kernel_rfl)) (fun _ _ _ h=>h) (Or.inl ⟨by rfl,?_⟩) ?_ ?_;rotate_left
               ·intro w';go_simp;with_reducible rfl
               rotate_left
               ·simp only [Act.put,s1,s2,s3,i64_w,i32_w];rfl
               refine pure_ (i:=15) (N:=some 91) (v:=?_) (a':=?_) (tf 16 20) rfl rfl (any_of HT_.out (by kernel_rfl)) (fun _ _ _ h=>h) (Or.inl ⟨by rfl,?_⟩) ?_ ?_;rotate_left
               ·intro w';go_simp;with_reducible rfl
               rotate_left
               ·simp only [Act.put,s1,s2,s3,i64_w,i32_w];rfl
               refine take_ (i:=16) (N:=some 92) (v:=?_) (a':=?_) (tf 17 19) rfl rfl (take_ofW HT_.out HW_.out (by kernel_rfl)) (fun _ _ _ h=>h) (Or.inl ⟨by rfl,?_⟩) hHeld ?_ ?_;rotate_left
               ·rintro w' ⟨s0,s1,s2,s3,s4,s5,s6,s7,s8,s9,s10,s11,s12⟩;go_simp;with_reducible rfl
               rotate_left
               ·simp only [Act.put,s1,s2,s3,i64_w,i32_w];rfl
               refine pure_ (i:=17) (N:=some 93) (v:=?_) (a':=?_) (tf 18 18) rfl rfl (any_of HT_.out (by kernel_rfl)) (fun _ _ _ h=>h) (Or.inl ⟨by rfl,?_⟩) ?_ ?_;rotate_left
               ·intro w';go_simp;with_reducible rfl
               rotate_left
               ·simp only [Act.put,s1,s2,s3,i64_w,i32_w];rfl
               refine pure_ (i:=18) (N:=some 94) (v:=?_) (a':=?_) (tf 19 17) rfl rfl (any_of HT_.out (by kernel_rfl)) (fun _ _ _ h=>h) (Or.inl ⟨by rfl,?_⟩) ?_ ?_;rotate_left
               ·intro w';go_simp;with_reducible rfl
               rotate_left
               ·simp only [Act.put,s1,s2,s3,i64_w,i32_w];rfl
               refine pure_ (i:=19) (N:=some 95) (v:=?_) (a':=?_) (tf 20 16) rfl rfl (any_of HT_.out (by kernel_rfl)) (fun _ _ _ h=>h) (Or.inl ⟨by rfl,?_⟩) ?_ ?_;rotate_left
               ·intro w';go_simp;with_reducible rfl
               rotate_left
               ·simp only [Act.put,s1,s2,s3,i64_w,i32_w];rfl
               refine pure_ (i:=20) (N:=some 96) (v:=undef) (a':=?_) (tf 21 15) rfl rfl (any_of HT_.out (by kernel_rfl)) (fun _ _ _ h=>h) (Or.inr ⟨by rfl,rfl⟩) ?_ ?_;rotate_left
               ·simp only [Act.put,s1,s2,s3,i64_w,i32_w];rfl
               refine pure_ (i:=21) (N:=some 97) (v:=undef) (a':=?_) (tf 22 14) rfl rfl (any_of HT_.out (by kernel_rfl)) (fun _ _ _ h=>h) (Or.inr ⟨by rfl,rfl⟩) ?_ ?_;rotate_left
               ·simp only [Act.put,s1,s2,s3,i64_w,i32_w];rfl
               refine pure_ (i:=22) (N:=some 98) (v:=undef) (a':=?_) (tf 23 13) rfl rfl (any_of HT_.out (by kernel_rfl)) (fun _ _ _ h=>h) (Or.inr ⟨by rfl,rfl⟩) ?_ ?_;rotate_left
               ·simp only [Act.put,s1,s2,s3,i64_w,i32_w];rfl
               refine pure_ (i:=23) (N:=some 99) (v:=undef) (a':=?_) (tf 24 12) rfl rfl (any_of HT_.out (by kernel_rfl)) (fun _ _ _ h=>h) (Or.inr ⟨by rfl,rfl⟩) ?_ ?_;rotate_left
               ·simp only [Act.put,s1,s2,s3,i64_w,i32_w];rfl
               refine pure_ (i:=24) (N:=some 100) (v:=undef) (a':=?_) (tf 25 11) rfl rfl (any_of HT_.out (by kernel_rfl)) (fun _ _ _ h=>h) (Or.inr ⟨by rfl,rfl⟩) ?_ ?_;rotate_left
               ·simp only [Act.put,s1,s2,s3,i64_w,i32_w];rfl
               refine pure_ (i:=25) (N:=some 101) (v:=undef) (a':=?_) (tf 26 10) rfl rfl (any_of HT_.out (by kernel_rfl)) (fun _ _ _ h=>h) (Or.inr ⟨by rfl,rfl⟩) ?_ ?_;rotate_left
               ·simp only [Act.put,s1,s2,s3,i64_w,i32_w];rfl
               refine pure_ (i:=26) (N:=some 102) (v:=undef) (a':=?_) (tf 27 9) rfl rfl (any_of HT_.out (by kernel_rfl)) (fun _ _ _ h=>h) (Or.inr ⟨by rfl,rfl⟩) ?_ ?_;rotate_left
               ·simp only [Act.put,s1,s2,s3,i64_w,i32_w];rfl
               refine pure_ (i:=27) (N:=some 103) (v:=undef) (a':=?_) (tf 28 8) rfl rfl (any_of HT_.out (by kernel_rfl)) (fun _ _ _ h=>h) (Or.inr ⟨by rfl,rfl⟩) ?_ ?_;rotate_left
               ·simp only [Act.put,s1,s2,s3,i64_w,i32_w];rfl
               refine pure_ (i:=28) (N:=some 104) (v:=undef) (a':=?_) (tf 29 7) rfl rfl (any_of HT_.out (by kernel_rfl)) (fun _ _ _ h=>h) (Or.inr ⟨by rfl,rfl⟩) ?_ ?_;rotate_left
               ·simp only [Act.put,s1,s2,s3,i64_w,i32_w];rfl
               refine pure_ (i:=29) (N:=some 105) (v:=undef) (a':=?_) (tf 30 6) rfl rfl (any_of HT_.out (by kernel_rfl)) (fun _ _ _ h=>h) (Or.inr ⟨by rfl,rfl⟩) ?_ ?_;rotate_left
               ·simp only [Act.put,s1,s2,s3,i64_w,i32_w];rfl
               refine pure_ (i:=30) (N:=some 106) (v:=undef) (a':=?_) (tf 31 5) rfl rfl (any_of HT_.out (by kernel_rfl)) (fun _ _ _ h=>h) (Or.inr ⟨by rfl,rfl⟩) ?_ ?_;rotate_left
               ·simp only [Act.put,s1,s2,s3,i64_w,i32_w];rfl
               refine pure_ (i:=31) (N:=some 107) (v:=undef) (a':=?_) (tf 32 4) rfl rfl (any_of HT_.out (by kernel_rfl)) (fun _ _ _ h=>h) (Or.inr ⟨by rfl,rfl⟩) ?_ ?_;rotate_left
               ·simp only [Act.put,s1,s2,s3,i64_w,i32_w];rfl
               refine pure_ (i:=32) (N:=some 108) (v:=undef) (a':=?_) (tf 33 3) rfl rfl (any_of HT_.out (by kernel_rfl)) (fun _ _ _ h=>h) (Or.inr ⟨by rfl,rfl⟩) ?_ ?_;rotate_left
               ·simp only [Act.put,s1,s2,s3,i64_w,i32_w];rfl
               refine pure_ (i:=33) (N:=some 109) (v:=undef) (a':=?_) (tf 34 2) rfl rfl (any_of HT_.out (by kernel_rfl)) (fun _ _ _ h=>h) (Or.inr ⟨by rfl,rfl⟩) ?_ ?_;rotate_left
               ·simp only [Act.put,s1,s2,s3,i64_w,i32_w];rfl
               refine pure_ (i:=34) (N:=some 110) (v:=?_) (a':=?_) (tf 35 1) rfl rfl (any_of HT_.out (by kernel_rfl)) (fun _ _ _ h=>h) (Or.inl ⟨by rfl,?_⟩) ?_ ?_;rotate_left
               ·intro w';go_simp;with_reducible rfl
               rotate_left
               ·simp only [Act.put,s1,s2,s3,i64_w,i32_w];rfl
               refine pure_ (i:=35) (N:=some 111) (v:=?_) (a':=?_) (tf 36 0) rfl rfl (any_of HT_.out (by kernel_rfl)) (fun _ _ _ h=>h) (Or.inl ⟨by rfl,?_⟩) ?_ ?_;rotate_left
               ·intro w';go_simp;with_reducible rfl
               rotate_left
               ·simp only [Act.put,s1,s2,s3,i64_w,i32_w];rfl
               refine done_ (done_of HT_.out (by kernel_rfl)) ?_
               try go_wp2
               go_roundg k3
               case measure=>have:=HJ2.out;have:=HK2.out;have:=HK3.out;omega
               case rel=>exact ⟨(wrap64 (A2 + 1)),(by first|rfl|(simp;done)|(simp [*];done)),(by first|exact H'|(rw [hji6];exact H')),⟨by have:=HJ2.out;have:=HK2.out;have:=HK3.out;omega⟩,⟨ra A6⟩,⟨ra A7⟩,⟨by exact tb HB⟩⟩
             ·replace c37:=Bool.eq_false_iff.mpr c37;subst c37
              have H1:(spec_FrontOk.l1 k3 l1 A5 A8 (wrap64 (A2 + 1)))=some r:=by rw [if_neg (show ¬ (false=true) by decide)] at H;exact H
              clear H;have H:=H1;clear H1;have H':=Aside0.mk H;clear H
              try go_wp2
              have n0_:=Aside0.mk (Kd.R_drew A6.out);have n1_:=Aside0.mk (Kd.R_drew A7.out);have n2_:=Aside0.mk (below_drew1 HB.out);clear A6;clear A7;clear HB;have A6:=n0_;have A7:=n1_;have HB:=n2_;clear n0_ n1_ n2_;have p118:0≤(A2:Int):=od;have q118:A2 < (l1.length:Int):=od;obtain ⟨ad118,e118,hx118_0,hx118_1,hx118_2,hx118_3,hx118_4,hx118_5⟩:=at_T99 HR1.out A2 p118 q118;have hw118_5:=hx118_5;have hw118_4:=hx118_4;have hw118_3:=hx118_3;have hw118_2:=hx118_2;have hw118_1:=hx118_1;have hw118_0:=hx118_0;cases e118;replace hx118_0:=ct HB hx118_0;replace hx118_1:=ct HB hx118_1;replace hx118_2:=ct HB hx118_2;replace hx118_3:=ct HB hx118_3;replace hx118_4:=ct HB hx118_4;replace hx118_5:=ct HB hx118_5;replace p118:=eq_true p118;replace q118:=eq_true q118;have p120:0≤(A2:Int):=od;have q120:A2 < (A8.length:Int):=od
              (try (obtain ⟨Aq_,cq_,eq_⟩:=Kd.R_slice A7.out;subst eq_))
              obtain ⟨ad120,e120,hx120_0⟩:=Kd.at_bool (Kd.R_reads' A7.out).2.2 A2 p120 q120
              (try rw [← Nbq36.out] at hx120_0)
              cases e120;replace p120:=eq_true p120;replace q120:=eq_true q120;refine start_ (n:=36) (S:=fun w'=>w'.cell? (ad118.add ((A2).toNat * 6))=some (.int .i64 ((rd_T99 l1 A2).f0))∧w'.cell? ⟨(ad118.add ((A2).toNat * 6)).block,(ad118.add ((A2).toNat * 6)).off + 1,none⟩=some (.int .i64 ((rd_T99 l1 A2).f1))∧w'.cell? ⟨(ad118.add ((A2).toNat * 6)).block,(ad118.add ((A2).toNat * 6)).off + 2,none⟩=some (.int .i64 ((rd_T99 l1 A2).f2))∧w'.cell? ⟨(ad118.add ((A2).toNat * 6)).block,(ad118.add ((A2).toNat * 6)).off + 3,none⟩=some (.int .i64 ((rd_T99 l1 A2).f3))∧w'.cell? ⟨(ad118.add ((A2).toNat * 6)).block,(ad118.add ((A2).toNat * 6)).off + 4,none⟩=some (.int .i64 ((rd_T99 l1 A2).f4))∧w'.cell? ⟨(ad118.add ((A2).toNat * 6)).block,(ad118.add ((A2).toNat * 6)).off + 5,none⟩=some (.int .i64 ((rd_T99 l1 A2).f5))∧w'.cell? (ad120.add (A2).toNat)=some (.bool false)) (ds:=[]) (tf 0 36) (by kernel_rfl) rfl rfl ⟨(ct HB hw118_0 :),(ct HB hw118_1 :),(ct HB hw118_2 :),(ct HB hw118_3 :),(ct HB hw118_4 :),(ct HB hw118_5 :),hx120_0⟩ (fun hHeld=>?_);refine with_tabW spec_FrontOk.tab14 spec_FrontOk.bits14 (fun HT_ HW_=>?_);generalize wr.drew=w50 at A6 A7 HB hx118_0 hx118_1 hx118_2 hx118_3 hx118_4 hx118_5 hx120_0 hHeld ⊢;refine pure_ (i:=0) (N:=some 76) (v:=?_) (a':=?_) (tf 1 35) rfl rfl (any_of HT_.out (by kernel_rfl)) (fun _ _ _ h=>h) (Or.inl ⟨by rfl,?_⟩) ?_ ?_;rotate_left
              ·intro w';go_simp;with_reducible rfl
              rotate_left
              ·simp only [Act.put,s1,s2,s3,i64_w,i32_w];rfl
              refine pure_ (i:=1) (N:=some 77) (v:=?_) (a':=?_) (tf 2 34) rfl rfl (any_of HT_.out (by kernel_rfl)) (fun _ _ _ h=>h) (Or.inl ⟨by rfl,?_⟩) ?_ ?_;rotate_left
              ·intro w';go_simp;with_reducible rfl
              rotate_left
              ·simp only [Act.put,s1,s2,s3,i64_w,i32_w];rfl
              refine pure_ (i:=2) (N:=some 78) (v:=?_) (a':=?_) (tf 3 33) rfl rfl (any_of HT_.out (by kernel_rfl)) (fun _ _ _ h=>h) (Or.inl ⟨by rfl,?_⟩) ?_ ?_;rotate_left
              ·intro w';go_simp;with_reducible rfl
              rotate_left
              ·simp only [Act.put,s1,s2,s3,i64_w,i32_w];rfl
              refine pure_ (i:=3) (N:=some 79) (v:=?_) (a':=?_) (tf 4 32) rfl rfl (any_of HT_.out (by kernel_rfl)) (fun _ _ _ h=>h) (Or.inl ⟨by rfl,?_⟩) ?_ ?_;rotate_left
              ·intro w';go_simp;with_reducible rfl
              rotate_left
              ·simp only [Act.put,s1,s2,s3,i64_w,i32_w];rfl
              refine take_ (i:=4) (N:=some 80) (v:=?_) (a':=?_) (tf 5 31) rfl rfl (take_ofW HT_.out HW_.out (by kernel_rfl)) (fun _ _ _ h=>h) (Or.inl ⟨by rfl,?_⟩) hHeld ?_ ?_;rotate_left
              ·rintro w' ⟨s0,s1,s2,s3,s4,s5,s6⟩;go_simp;with_reducible rfl
              rotate_left
              ·simp only [Act.put,s1,s2,s3,i64_w,i32_w];rfl
              refine one_ (i:=5) (N:=some 81) (tf 6 30) rfl rfl (one_of HT_.out (by kernel_rfl)) (by decide) (fun K hK=>?_);refine goes_ Try.func103 (by kernel_rfl) rfl #[.int .i64 ((rd_T99 l1 A2).f0)] (by rfl) rfl rfl ml ?_
              with_reducible refine (spec_l02Quant.calls ((rd_T99 l1 A2).f0) false _ A32.out).mono ?_
              rintro e w' ⟨rfl,⟨nd,rfl⟩⟩;refine ⟨_,rfl,?_⟩;obtain ⟨Ao51,co51,eo51⟩:=Kd.R_slice A7.out;(first|subst eo51|(injection eo51 with f1_ f2_ f3_;have f4_:=f1_.symm;have f5_:=f3_.symm;clear f1_ f2_ f3_;subst f4_;subst f5_));refine hK.out _ _ ⟨(ct HB hw118_0 :),(ct HB hw118_1 :),(ct HB hw118_2 :),(ct HB hw118_3 :),(ct HB hw118_4 :),(ct HB hw118_5 :),hHeld.2.2.2.2.2.2⟩ (fun hHeld=>?_);clear hK K;refine norm_ (a':=?_) ?_ ?_;rotate_left
              ·show Act.put _ (some 81) _=_
               simp only [Act.put,s1,s2,s3,i64_w,i32_w];rfl
              refine pure_ (i:=6) (N:=some 82) (v:=?_) (a':=?_) (tf 7 29) rfl rfl (any_of HT_.out (by kernel_rfl)) (fun _ _ _ h=>h) (Or.inl ⟨by rfl,?_⟩) ?_ ?_;rotate_left
              ·intro w';go_simp;with_reducible rfl
              rotate_left
              ·simp only [Act.put,s1,s2,s3,i64_w,i32_w];rfl
              refine pure_ (i:=7) (N:=some 83) (v:=?_) (a':=?_) (tf 8 28) rfl rfl (any_of HT_.out (by kernel_rfl)) (fun _ _ _ h=>h) (Or.inl ⟨by rfl,?_⟩) ?_ ?_;rotate_left
              ·intro w';go_simp;with_reducible rfl
              rotate_left
              ·simp only [Act.put,s1,s2,s3,i64_w,i32_w];rfl
              refine pure_ (i:=8) (N:=some 84) (v:=?_) (a':=?_) (tf 9 27) rfl rfl (any_of HT_.out (by kernel_rfl)) (fun _ _ _ h=>h) (Or.inl ⟨by rfl,?_⟩) ?_ ?_;rotate_left
              ·intro w';go_simp;with_reducible rfl
              rotate_left
              ·simp only [Act.put,s1,s2,s3,i64_w,i32_w];rfl
              refine pure_ (i:=9) (N:=some 85) (v:=?_) (a':=?_) (tf 10 26) rfl rfl (any_of HT_.out (by kernel_rfl)) (fun _ _ _ h=>h) (Or.inl ⟨by rfl,?_⟩) ?_ ?_;rotate_left
              ·intro w';go_simp;with_reducible rfl
              rotate_left
              ·simp only [Act.put,s1,s2,s3,i64_w,i32_w];rfl
              refine take_ (i:=10) (N:=some 86) (v:=?_) (a':=?_) (tf 11 25) rfl rfl (take_ofW HT_.out HW_.out (by kernel_rfl)) (fun _ _ _ h=>h) (Or.inl ⟨by rfl,?_⟩) hHeld ?_ ?_;rotate_left
              ·rintro w' ⟨s0,s1,s2,s3,s4,s5,s6⟩;go_simp;with_reducible rfl
              rotate_left
              ·simp only [Act.put,s1,s2,s3,i64_w,i32_w];rfl
              refine pure_ (i:=11) (N:=some 87) (v:=?_) (a':=?_) (tf 12 24) rfl rfl (any_of HT_.out (by kernel_rfl)) (fun _ _ _ h=>h) (Or.inl ⟨by rfl,?_⟩) ?_ ?_;rotate_left
              ·intro w';go_simp;with_reducible rfl
              rotate_left
              ·simp only [Act.put,s1,s2,s3,i64_w,i32_w];rfl
              refine pure_ (i:=12) (N:=some 88) (v:=undef) (a':=?_) (tf 13 23) rfl rfl (any_of HT_.out (by kernel_rfl)) (fun _ _ _ h=>h) (Or.inr ⟨by rfl,rfl⟩) ?_ ?_;rotate_left
              ·simp only [Act.put,s1,s2,s3,i64_w,i32_w];rfl
              refine pure_ (i:=13) (N:=some 89) (v:=undef) (a':=?_) (tf 14 22) rfl rfl (any_of HT_.out (by kernel_rfl)) (fun _ _ _ h=>h) (Or.inr ⟨by rfl,rfl⟩) ?_ ?_;rotate_left
              ·simp only [Act.put,s1,s2,s3,i64_w,i32_w];rfl
              refine pure_ (i:=14) (N:=some 90) (v:=undef) (a':=?_) (tf 15 21) rfl rfl (any_of HT_.out (by kernel_rfl)) (fun _ _ _ h=>h) (Or.inr ⟨by rfl,rfl⟩) ?_ ?_;rotate_left
              ·simp only [Act.put,s1,s2,s3,i64_w,i32_w];rfl
              refine pure_ (i:=15) (N:=some 91) (v:=undef) (a':=?_) (tf 16 20) rfl rfl (any_of HT_.out (by kernel_rfl)) (fun _ _ _ h=>h) (Or.inr ⟨by rfl,rfl⟩) ?_ ?_;rotate_left
              ·simp only [Act.put,s1,s2,s3,i64_w,i32_w];rfl
              refine pure_ (i:=16) (N:=some 92) (v:=undef) (a':=?_) (tf 17 19) rfl rfl (any_of HT_.out (by kernel_rfl)) (fun _ _ _ h=>h) (Or.inr ⟨by rfl,rfl⟩) ?_ ?_;rotate_left
              ·simp only [Act.put,s1,s2,s3,i64_w,i32_w];rfl
              refine pure_ (i:=17) (N:=some 93) (v:=undef) (a':=?_) (tf 18 18) rfl rfl (any_of HT_.out (by kernel_rfl)) (fun _ _ _ h=>h) (Or.inr ⟨by rfl,rfl⟩) ?_ ?_;rotate_left
              ·simp only [Act.put,s1,s2,s3,i64_w,i32_w];rfl
              refine pure_ (i:=18) (N:=some 94) (v:=?_) (a':=?_) (tf 19 17) rfl rfl (any_of HT_.out (by kernel_rfl)) (fun _ _ _ h=>h) (Or.inl ⟨by rfl,?_⟩) ?_ ?_;rotate_left
              ·intro w';go_simp;with_reducible rfl
              rotate_left
              ·simp only [Act.put,s1,s2,s3,i64_w,i32_w];rfl
              refine pure_ (i:=19) (N:=some 95) (v:=?_) (a':=?_) (tf 20 16) rfl rfl (any_of HT_.out (by kernel_rfl)) (fun _ _ _ h=>h) (Or.inl ⟨by rfl,?_⟩) ?_ ?_;rotate_left
              ·intro w';go_simp;with_reducible rfl
              rotate_left
              ·simp only [Act.put,s1,s2,s3,i64_w,i32_w];rfl
              refine pure_ (i:=20) (N:=some 96) (v:=undef) (a':=?_) (tf 21 15) rfl rfl (any_of HT_.out (by kernel_rfl)) (fun _ _ _ h=>h) (Or.inr ⟨by rfl,rfl⟩) ?_ ?_;rotate_left
              ·simp only [Act.put,s1,s2,s3,i64_w,i32_w];rfl
              refine pure_ (i:=21) (N:=some 97) (v:=undef) (a':=?_) (tf 22 14) rfl rfl (any_of HT_.out (by kernel_rfl)) (fun _ _ _ h=>h) (Or.inr ⟨by rfl,rfl⟩) ?_ ?_;rotate_left
              ·simp only [Act.put,s1,s2,s3,i64_w,i32_w];rfl
              refine pure_ (i:=22) (N:=some 98) (v:=undef) (a':=?_) (tf 23 13) rfl rfl (any_of HT_.out (by kernel_rfl)) (fun _ _ _ h=>h) (Or.inr ⟨by rfl,rfl⟩) ?_ ?_;rotate_left
              ·simp only [Act.put,s1,s2,s3,i64_w,i32_w];rfl
              refine pure_ (i:=23) (N:=some 99) (v:=undef) (a':=?_) (tf 24 12) rfl rfl (any_of HT_.out (by kernel_rfl)) (fun _ _ _ h=>h) (Or.inr ⟨by rfl,rfl⟩) ?_ ?_;rotate_left
              ·simp only [Act.put,s1,s2,s3,i64_w,i32_w];rfl
              refine pure_ (i:=24) (N:=some 100) (v:=undef) (a':=?_) (tf 25 11) rfl rfl (any_of HT_.out (by kernel_rfl)) (fun _ _ _ h=>h) (Or.inr ⟨by rfl,rfl⟩) ?_ ?_;rotate_left
              ·simp only [Act.put,s1,s2,s3,i64_w,i32_w];rfl
              refine pure_ (i:=25) (N:=some 101) (v:=undef) (a':=?_) (tf 26 10) rfl rfl (any_of HT_.out (by kernel_rfl)) (fun _ _ _ h=>h) (Or.inr ⟨by rfl,rfl⟩) ?_ ?_;rotate_left
              ·simp only [Act.put,s1,s2,s3,i64_w,i32_w];rfl
              refine pure_ (i:=26) (N:=some 102) (v:=undef) (a':=?_) (tf 27 9) rfl rfl (any_of HT_.out (by kernel_rfl)) (fun _ _ _ h=>h) (Or.inr ⟨by rfl,rfl⟩) ?_ ?_;rotate_left
              ·simp only [Act.put,s1,s2,s3,i64_w,i32_w];rfl
              refine pure_ (i:=27) (N:=some 103) (v:=undef) (a':=?_) (tf 28 8) rfl rfl (any_of HT_.out (by kernel_rfl)) (fun _ _ _ h=>h) (Or.inr ⟨by rfl,rfl⟩) ?_ ?_;rotate_left
              ·simp only [Act.put,s1,s2,s3,i64_w,i32_w];rfl
              refine pure_ (i:=28) (N:=some 104) (v:=undef) (a':=?_) (tf 29 7) rfl rfl (any_of HT_.out (by kernel_rfl)) (fun _ _ _ h=>h) (Or.inr ⟨by rfl,rfl⟩) ?_ ?_;rotate_left
              ·simp only [Act.put,s1,s2,s3,i64_w,i32_w];rfl
              refine pure_ (i:=29) (N:=some 105) (v:=undef) (a':=?_) (tf 30 6) rfl rfl (any_of HT_.out (by kernel_rfl)) (fun _ _ _ h=>h) (Or.inr ⟨by rfl,rfl⟩) ?_ ?_;rotate_left
              ·simp only [Act.put,s1,s2,s3,i64_w,i32_w];rfl
              refine pure_ (i:=30) (N:=some 106) (v:=undef) (a':=?_) (tf 31 5) rfl rfl (any_of HT_.out (by kernel_rfl)) (fun _ _ _ h=>h) (Or.inr ⟨by rfl,rfl⟩) ?_ ?_;rotate_left
              ·simp only [Act.put,s1,s2,s3,i64_w,i32_w];rfl
              refine pure_ (i:=31) (N:=some 107) (v:=undef) (a':=?_) (tf 32 4) rfl rfl (any_of HT_.out (by kernel_rfl)) (fun _ _ _ h=>h) (Or.inr ⟨by rfl,rfl⟩) ?_ ?_;rotate_left
              ·simp only [Act.put,s1,s2,s3,i64_w,i32_w];rfl
              refine pure_ (i:=32) (N:=some 108) (v:=undef) (a':=?_) (tf 33 3) rfl rfl (any_of HT_.out (by kernel_rfl)) (fun _ _ _ h=>h) (Or.inr ⟨by rfl,rfl⟩) ?_ ?_;rotate_left
              ·simp only [Act.put,s1,s2,s3,i64_w,i32_w];rfl
              refine pure_ (i:=33) (N:=some 109) (v:=undef) (a':=?_) (tf 34 2) rfl rfl (any_of HT_.out (by kernel_rfl)) (fun _ _ _ h=>h) (Or.inr ⟨by rfl,rfl⟩) ?_ ?_;rotate_left
              ·simp only [Act.put,s1,s2,s3,i64_w,i32_w];rfl
              refine pure_ (i:=34) (N:=some 110) (v:=?_) (a':=?_) (tf 35 1) rfl rfl (any_of HT_.out (by kernel_rfl)) (fun _ _ _ h=>h) (Or.inl ⟨by rfl,?_⟩) ?_ ?_;rotate_left
              ·intro w';go_simp;with_reducible rfl
              rotate_left
              ·simp only [Act.put,s1,s2,s3,i64_w,i32_w];rfl
              refine pure_ (i:=35) (N:=some 111) (v:=?_) (a':=?_) (tf 36 0) rfl rfl (any_of HT_.out (by kernel_rfl)) (fun _ _ _ h=>h) (Or.inl ⟨by rfl,?_⟩) ?_ ?_;rotate_left
              ·intro w';go_simp;with_reducible rfl
              rotate_left
              ·simp only [Act.put,s1,s2,s3,i64_w,i32_w];rfl
              refine done_ (done_of HT_.out (by kernel_rfl)) ?_
              try go_wp2
              go_roundg k3
              case measure=>have:=HJ2.out;have:=HK2.out;have:=HK3.out;omega
              case rel=>exact ⟨(wrap64 (A2 + 1)),(by first|rfl|(simp;done)|(simp [*];done)),(by first|exact H'|(rw [hji6];exact H')),⟨by have:=HJ2.out;have:=HK2.out;have:=HK3.out;omega⟩,⟨ra A6⟩,⟨ra A7⟩,⟨by exact tb HB⟩⟩
            ·rw [if_neg c35] at H;exact absurd H (by simp)
          ·rw [if_neg c31] at H;exact absurd H (by simp)
         ·rw [if_neg c30] at H;have c30b0:decide (A2 < (l1.length:Int))=false:=decide_eq_false c30;clear c30;obtain rfl:=os H;go_wp2;go_ret;exact ⟨er,tb HB⟩
end Go.Proofs.Ythipjoioicmcnaa.G
