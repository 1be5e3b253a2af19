-- texts of this session, merged by a program of it (wip/gen/pack.py)
import Derived.Test.YthipjoioicmcnaaKFnDecide1
import Derived.Test.YthipjoioicmcnaaKFnDecide3
set_option linter.unusedVariables false
set_option linter.unusedSimpArgs false
set_option maxHeartbeats 80000000
set_option maxRecDepth 100000
namespace Go.Proofs.Ythipjoioicmcnaa.G
open Go.RowKit Go.Proofs.YthipjoioicmcnaaW.PrintWords Go.Proofs.YthipjoioicmcnaaW.PrintLast Go.Proofs.YthipjoioicmcnaaW.PrintMore Go.Proofs.Ythipjoioicmcnaa.Sh
attribute [local go_sem] dP dR eA eB dB dC dQ dS
def dW.l0:Nat→Int→List (eS)→Int→Int→Option (Int)
 | 0,_,_,_,_=>none
 | k + 1,x3,x6,x7,x8=>if x8 < x7 then (if 0≤x8 then (if x8 < (x6.length:Int) then ((cS.f ((aV x6 x8).f2)).bind fun A6=>(if A6=true then (dW.l0 k (mn (wrap64 (x3 + ((aV x6 x8).f2))) 13) x6 x7 (wrap64 (x8 + 1))) else (some (-1)))) else (none)) else (none)) else (if x3 > 12 then (some (-1)) else (some x3))
def dW.f (k:Nat) (l0:List (eS)):Option (Int):=dW.l0 k 0 l0 (l0.length:Int) 0
theorem dW.calls (k:Nat) (A0:Option Addr) (c0:Nat) (l0:List (eS)) (r:Int) (w:World) (hr0:Kd.C lU w A0 l0.length l0) (hc0:l0.length≤c0) (h:dW.f k l0=some r) :
  Calls Try.prog 86 #[.slice A0 l0.length c0] w fun e w'=>e = .returned (.int .i64 r)∧Below w.heap.size w w':=by
 have hu66:=Try.underlying66;have HR0:=aA.mk hr0;have HC0:=aA.mk hc0;clear hr0 hc0;have HB:=aA.mk (Below.refl w.heap.size w);have H:(dW.l0 k 0 l0 (l0.length:Int) 0)=some r:=h;clear h;have H':=aA.mk H;clear H
 go_enter Try.func86,Try.ntmps86
 go_wp2
 go_loopg [3,8] k (fun kq v3 v8 w'=>∃ (A2:Int) (A1:Int),v3 = .int .i64 A2∧v8 = .int .i64 A1∧aA (dW.l0 kq A2 l0 (l0.length:Int) A1=some r)∧aA (kq≤k)∧aA (Below w.heap.size w w'))
 case atStart=>exact ⟨(0),(0),(by first|rfl|(simp;done)|(simp [*];done)),(by first|rfl|(simp;done)|(simp [*];done)),H',⟨Nat.le_refl _⟩,⟨by exact tb HB⟩⟩
 case round =>
  clear H';obtain ⟨A2,A1,rfl,rfl,HA,HK1,HB⟩:=hrel
  cases gk with
  | zero=>exact absurd HA.out (by simp [dW.l0])
  | succ k1 =>
   have H:=HA.out;clear HA;simp only [dW.l0] at H
   by_cases c2:A1 < (l0.length:Int)
   ·rw [if_pos c2] at H;have c2b0:decide (A1 < (l0.length:Int))=true:=decide_eq_true c2;clear c2
    by_cases c3:0≤A1
    ·rw [if_pos c3] at H;have c3b0:decide (0≤A1)=true:=decide_eq_true c3;clear c3
     by_cases c4:A1 < (l0.length:Int)
     ·rw [if_pos c4] at H;have c4b0:decide (A1 < (l0.length:Int))=true:=decide_eq_true c4;clear c4;replace H:=ob H;obtain ⟨A6,A50,H⟩:=H
      try dsimp only at H
      have A5:=aA.mk A50;clear A50
      by_cases c6:A6=true
      ·subst c6
       have H1:(dW.l0 k1 (mn (wrap64 (A2 + ((aV l0 A1).f2))) 13) l0 (l0.length:Int) (wrap64 (A1 + 1)))=some r:=by rw [if_pos rfl] at H;exact H
       clear H;have H:=H1;clear H1;obtain ⟨ji7,hji7⟩:∃ j_:Int,(mn (wrap64 (A2 + ((aV l0 A1).f2))) 13)=j_:=⟨_,rfl⟩
       replace H:(dW.l0 k1 ji7 l0 (l0.length:Int) (wrap64 (A1 + 1)))=some r:=by first|(rw [hji7] at H;exact H)|(simp only [hji7] at H ⊢;exact H)
       (try rw [hji7] at A5)
       have hji7_:(if 13 < (wrap64 (A2 + ((aV l0 A1).f2))) then 13 else (wrap64 (A2 + ((aV l0 A1).f2))))=ji7:=hji7;have H':=aA.mk H;clear H;have p101:0≤(A1:Int):=od;have q101:A1 < (l0.length:Int):=od;obtain ⟨ad101,e101,hx101_0,hx101_1,hx101_2⟩:=jA HR0.out A1 p101 q101;cases e101;replace hx101_0:=ct HB hx101_0;replace hx101_1:=ct HB hx101_1;replace hx101_2:=ct HB hx101_2;replace p101:=eq_true p101;replace q101:=eq_true q101;go_wp2_with (first|((with_reducible refine bF (N:=5) rfl ?_);refine bx (N:=5) (cs:=#[.bool false,.int .i64 0,.int .i64 0]) (t:=66) ?_;intro A3 hg w8 hbox hb;have A4:=aA.mk (hbox);have A7:=aA.mk ((by rw [hg];exact (aG (tb HB)):w.heap.size≤A3));have A8:=aA.mk ((by rw [hg];exact (aG (tb HB)):w.heap.size≤A3));replace HB:=aA.mk (aE (tb HB) hb);clear hb hbox hg;have hcz9__:=c3_ A4;have hfz9__:=f_ A4)|((with_reducible refine aD (f:=119) rfl ?_);refine aI (some 14) rfl rfl Try.func119 (by kernel_rfl) rfl #[.int .i64 ((aV l0 A1).f2)] rfl ml ?_;(with_reducible refine (cS.calls ((aV l0 A1).f2) true _ A5.out).mono ?_);rintro e w' ⟨rfl,⟨nd,rfl⟩⟩;refine ⟨_,rfl,?_⟩));go_roundg k1
       case measure=>have:=HK1.out;omega
       case rel=>exact ⟨(ji7),(wrap64 (A1 + 1)),(by first|rfl|(simp;done)|(simp only [← hji7] <;> (first|rfl|simp))|(simp [*];done)),(by first|rfl|(simp;done)|(simp [*];done)),(by first|exact H'|(rw [hji7];exact H')),⟨by have:=HK1.out;omega⟩,⟨by exact tb HB⟩⟩
      ·replace c6:=Bool.eq_false_iff.mpr c6;subst c6
       have H1:(some (-1))=some r:=by rw [if_neg (show ¬ (false=true) by decide)] at H;exact H
       clear H;have H:=H1;clear H1;obtain rfl:=os H;have p101:0≤(A1:Int):=od;have q101:A1 < (l0.length:Int):=od;obtain ⟨ad101,e101,hx101_0,hx101_1,hx101_2⟩:=jA HR0.out A1 p101 q101;cases e101;replace hx101_0:=ct HB hx101_0;replace hx101_1:=ct HB hx101_1;replace hx101_2:=ct HB hx101_2;replace p101:=eq_true p101;replace q101:=eq_true q101;go_wp2_with (first|((with_reducible refine bF (N:=5) rfl ?_);refine bx (N:=5) (cs:=#[.bool false,.int .i64 0,.int .i64 0]) (t:=66) ?_;intro A3 hg w10 hbox hb;have A4:=aA.mk (hbox);have A7:=aA.mk ((by rw [hg];exact (aG (tb HB)):w.heap.size≤A3));have A8:=aA.mk ((by rw [hg];exact (aG (tb HB)):w.heap.size≤A3));replace HB:=aA.mk (aE (tb HB) hb);clear hb hbox hg;have hcz11__:=c3_ A4;have hfz11__:=f_ A4)|((with_reducible refine aD (f:=119) rfl ?_);refine aI (some 14) rfl rfl Try.func119 (by kernel_rfl) rfl #[.int .i64 ((aV l0 A1).f2)] rfl ml ?_;(with_reducible refine (cS.calls ((aV l0 A1).f2) false _ A5.out).mono ?_);rintro e w' ⟨rfl,⟨nd,rfl⟩⟩;refine ⟨_,rfl,?_⟩));go_ret;exact ⟨er,tb HB⟩
     ·rw [if_neg c4] at H;exact absurd H (by simp)
    ·rw [if_neg c3] at H;exact absurd H (by simp)
   ·rw [if_neg c2] at H;have c2b0:decide (A1 < (l0.length:Int))=false:=decide_eq_false c2;clear c2
    by_cases c12:A2 > 12
    ·rw [if_pos c12] at H;have c12b0:decide (12 < A2)=true:=decide_eq_true c12;clear c12;obtain rfl:=os H;go_wp2;go_ret;exact ⟨er,tb HB⟩
    ·rw [if_neg c12] at H;have c12b0:decide (12 < A2)=false:=decide_eq_false c12;clear c12;obtain rfl:=os H;go_wp2;go_ret;exact ⟨er,tb HB⟩
end Go.Proofs.Ythipjoioicmcnaa.G
