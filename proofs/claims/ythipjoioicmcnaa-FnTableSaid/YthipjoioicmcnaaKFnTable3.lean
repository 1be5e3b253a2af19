-- texts of this session, merged by a program of it (wip/gen/pack.py)
import Derived.Test.YthipjoioicmcnaaKFnTable2
set_option linter.unusedVariables false
set_option linter.unusedSimpArgs false
set_option maxHeartbeats 80000000
set_option maxRecDepth 100000
namespace Go.Proofs.Ythipjoioicmcnaa.G
open Go.RowKit Go.Proofs.YthipjoioicmcnaaW.PrintWords Go.Proofs.YthipjoioicmcnaaW.PrintLast Go.Proofs.YthipjoioicmcnaaW.PrintMore Go.Proofs.Ythipjoioicmcnaa.Sh
attribute [local go_sem] eS eR fI fJ eI eJ eU eT
def jO.f (a0:Int) (a1:Int) (a2:Int):Option (Int):=(cT.f a0 a1 a2).bind fun A0=>(if A0=true then (if a2 ≥ a0 then (some 0) else (if 0≤(IntKind.u64.wrap (a2)) then (some (shr .i64 a1 (IntKind.u64.wrap (a2)))) else (none))) else (some 0))
theorem jO.calls (a0:Int) (a1:Int) (a2:Int) (r:Int) (w:World) (h:jO.f a0 a1 a2=some r) :
  Calls Try.prog 172 #[.int .i64 a0,.int .i64 a1,.int .i64 a2] w fun e w'=>e = .returned (.int .i64 r)∧bT w w':=by
 have H:((cT.f a0 a1 a2).bind fun A0=>(if A0=true then (if a2 ≥ a0 then (some 0) else (if 0≤(IntKind.u64.wrap (a2)) then (some (shr .i64 a1 (IntKind.u64.wrap (a2)))) else (none))) else (some 0)))=some r:=h;clear h;replace H:=ob H;obtain ⟨A0,A40,H⟩:=H
 try dsimp only at H
 have A4:=aA.mk A40;clear A40
 by_cases c5:A0=true
 ·subst c5
  have H1:(if a2 ≥ a0 then (some 0) else (if 0≤(IntKind.u64.wrap (a2)) then (some (shr .i64 a1 (IntKind.u64.wrap (a2)))) else (none)))=some r:=by rw [if_pos rfl] at H;exact H
  clear H;have H:=H1;clear H1
  by_cases c6:a2 ≥ a0
  ·rw [if_pos c6] at H;have c6b0:decide (a0≤a2)=true:=decide_eq_true c6;clear c6;obtain rfl:=os H
   go_enter Try.func172,Try.ntmps172
   go_wp2_with (first|((with_reducible refine aD (f:=173) rfl ?_);refine aT (some 10) rfl rfl Try.func173 (by kernel_rfl) rfl #[.int .i64 a0,.int .i64 a1,.int .i64 a2] rfl ml ?_;(with_reducible refine (cT.calls a0 a1 a2 true _ A4.out).mono ?_);rintro e w' ⟨rfl,⟨nd,rfl⟩⟩;refine ⟨_,rfl,?_⟩));go_ret;exact ⟨e1,dn⟩
  ·rw [if_neg c6] at H;have c6b0:decide (a0≤a2)=false:=decide_eq_false c6;clear c6;obtain ⟨ji7,hji7⟩:∃ j_:Int,(IntKind.u64.wrap (a2))=j_:=⟨_,rfl⟩
   replace H:(if 0≤(ji7) then (some (shr .i64 a1 (ji7))) else (none))=some r:=by first|(rw [hji7] at H;exact H)|(simp only [hji7] at H ⊢;exact H)
   (try rw [hji7] at A4)
   by_cases c8:0≤(ji7)
   ·rw [if_pos c8] at H;have c8b0:=eq_true c8;have c8b1:decide (0≤(ji7))=true:=decide_eq_true c8;clear c8;obtain ⟨ji9,hji9⟩:∃ j_:Int,(shr .i64 a1 (ji7))=j_:=⟨_,rfl⟩
    replace H:(some ji9)=some r:=by first|(rw [hji9] at H;exact H)|(simp only [hji9] at H ⊢;exact H)
    (try rw [hji9] at A4)
    have hji9_:(a1 / 2 ^ min (ji7).toNat 64)=ji9:=hji9;have hji9z:(ji7)≤64→(a1 / 2 ^ (ji7).toNat)=ji9:=oQ hji9;obtain rfl:=os H
    go_enter Try.func172,Try.ntmps172
    go_wp2_with (first|((with_reducible refine aD (f:=173) rfl ?_);refine aT (some 10) rfl rfl Try.func173 (by kernel_rfl) rfl #[.int .i64 a0,.int .i64 a1,.int .i64 a2] rfl ml ?_;(with_reducible refine (cT.calls a0 a1 a2 true _ A4.out).mono ?_);rintro e w' ⟨rfl,⟨nd,rfl⟩⟩;refine ⟨_,rfl,?_⟩));go_ret;exact ⟨by first|rfl|(simp;done)|(simp only [← hji7,← hji9] <;> (first|rfl|simp))|(simp [*];done),by repeat (first|exact bT.refl _|apply bT.step)⟩
   ·rw [if_neg c8] at H;exact absurd H (by simp)
 ·replace c5:=Bool.eq_false_iff.mpr c5;subst c5
  have H1:(some 0)=some r:=by rw [if_neg (show ¬ (false=true) by decide)] at H;exact H
  clear H;have H:=H1;clear H1;obtain rfl:=os H
  go_enter Try.func172,Try.ntmps172
  go_wp2_with (first|((with_reducible refine aD (f:=173) rfl ?_);refine aT (some 10) rfl rfl Try.func173 (by kernel_rfl) rfl #[.int .i64 a0,.int .i64 a1,.int .i64 a2] rfl ml ?_;(with_reducible refine (cT.calls a0 a1 a2 false _ A4.out).mono ?_);rintro e w' ⟨rfl,⟨nd,rfl⟩⟩;refine ⟨_,rfl,?_⟩));go_ret;exact ⟨e1,dn⟩
def jN.f (a0:Int) (a1:Int) (a2:Int):Option (Int):=(cT.f a0 a1 a2).bind fun A1=>(if A1=true then ((dE.f a0 (wrap64 (a1 - a2))).bind fun A0=>(some A0)) else (some 0))
theorem jN.calls (a0:Int) (a1:Int) (a2:Int) (r:Int) (w:World) (h:jN.f a0 a1 a2=some r) :
  Calls Try.prog 167 #[.int .i64 a0,.int .i64 a1,.int .i64 a2] w fun e w'=>e = .returned (.int .i64 r)∧bT w w':=by
 have H:((cT.f a0 a1 a2).bind fun A1=>(if A1=true then ((dE.f a0 (wrap64 (a1 - a2))).bind fun A0=>(some A0)) else (some 0)))=some r:=h;clear h;replace H:=ob H;obtain ⟨A1,A40,H⟩:=H;replace H:(if A1=true then ((dE.f a0 (wrap64 (a1 - a2))).bind fun A0=>(some A0)) else (some 0))=some r:=H;have A4:=aA.mk A40;clear A40
 by_cases c5:A1=true
 ·subst c5
  have H1:((dE.f a0 (wrap64 (a1 - a2))).bind fun A0=>(some A0))=some r:=by rw [if_pos rfl] at H;exact H
  clear H;have H:=H1;clear H1;replace H:=ob H;obtain ⟨A0,A60,H⟩:=H;replace H:(some A0)=some r:=H;have A6:=aA.mk A60;clear A60;obtain rfl:=os H
  go_enter Try.func167,Try.ntmps167
  go_wp2_with (first|((with_reducible refine aD (f:=173) rfl ?_);refine aT (some 10) rfl rfl Try.func173 (by kernel_rfl) rfl #[.int .i64 a0,.int .i64 a1,.int .i64 a2] rfl ml ?_;(with_reducible refine (cT.calls a0 a1 a2 true _ A4.out).mono ?_);rintro e w' ⟨rfl,⟨nd,rfl⟩⟩;refine ⟨_,rfl,?_⟩)|((with_reducible refine aD (f:=64) rfl ?_);refine aT (some 16) rfl rfl Try.func64 (by kernel_rfl) rfl #[.int .i64 a0,.int .i64 (wrap64 (a1 - a2))] rfl ml ?_;(with_reducible refine (dE.calls a0 (wrap64 (a1 - a2)) A0 _ A6.out).mono ?_);rintro e w' ⟨rfl,⟨nd,rfl⟩⟩;refine ⟨_,rfl,?_⟩));go_ret;exact ⟨e1,dn⟩
 ·replace c5:=Bool.eq_false_iff.mpr c5;subst c5
  have H1:(some 0)=some r:=by rw [if_neg (show ¬ (false=true) by decide)] at H;exact H
  clear H;have H:=H1;clear H1;obtain rfl:=os H
  go_enter Try.func167,Try.ntmps167
  go_wp2_with (first|((with_reducible refine aD (f:=173) rfl ?_);refine aT (some 10) rfl rfl Try.func173 (by kernel_rfl) rfl #[.int .i64 a0,.int .i64 a1,.int .i64 a2] rfl ml ?_;(with_reducible refine (cT.calls a0 a1 a2 false _ A4.out).mono ?_);rintro e w' ⟨rfl,⟨nd,rfl⟩⟩;refine ⟨_,rfl,?_⟩));go_ret;exact ⟨e1,dn⟩
def dU.f (a0:Int) (a1:Int) (a2:Int) (a3:Int):Option (Int):=if a0=3 then (some (Go.bits .and .i64 a2 a3)) else (if a0=4 then (some (Go.bits .or .i64 a2 a3)) else (if a0=5 then (some (Go.bits .xor .i64 a2 a3)) else (if a0=6 then ((jH.f a1 a2 a3).bind fun A0=>(some A0)) else (if a0=7 then ((jN.f a1 a2 a3).bind fun A1=>(some A1)) else (if a0=8 then ((jP.f a1 a2 a3).bind fun A2=>(some A2)) else (if a0=9 then ((jQ.f a1 a2 a3).bind fun A3=>(some A3)) else (if a0=10 then ((jL.f a1 a2 a3).bind fun A4=>(some A4)) else (if a0=11 then ((jE.f a1 a2 a3).bind fun A5=>(some A5)) else ((jO.f a1 a2 a3).bind fun A6=>(some A6))))))))))
theorem dU.calls (a0:Int) (a1:Int) (a2:Int) (a3:Int) (r:Int) (w:World) (h:dU.f a0 a1 a2 a3=some r) :
  Calls Try.prog 141 #[.int .i64 a0,.int .i64 a1,.int .i64 a2,.int .i64 a3] w fun e w'=>e = .returned (.int .i64 r)∧bT w w':=by
 have H:(if a0=3 then (some (Go.bits .and .i64 a2 a3)) else (if a0=4 then (some (Go.bits .or .i64 a2 a3)) else (if a0=5 then (some (Go.bits .xor .i64 a2 a3)) else (if a0=6 then ((jH.f a1 a2 a3).bind fun A0=>(some A0)) else (if a0=7 then ((jN.f a1 a2 a3).bind fun A1=>(some A1)) else (if a0=8 then ((jP.f a1 a2 a3).bind fun A2=>(some A2)) else (if a0=9 then ((jQ.f a1 a2 a3).bind fun A3=>(some A3)) else (if a0=10 then ((jL.f a1 a2 a3).bind fun A4=>(some A4)) else (if a0=11 then ((jE.f a1 a2 a3).bind fun A5=>(some A5)) else ((jO.f a1 a2 a3).bind fun A6=>(some A6)))))))))))=some r:=h;clear h
 by_cases c5:a0=3
 ·rw [if_pos c5] at H;have c5b0:(a0 == 3)=true:=beq_iff_eq.mpr c5;have c5b1:(a0 != 3)=false:=bne_eq_false_iff_eq.mpr c5;clear c5;obtain rfl:=os H
  go_enter Try.func141,Try.ntmps141
  go_wp2;go_ret;exact ⟨e1,dn⟩
 ·rw [if_neg c5] at H;have c5b0:(a0 == 3)=false:=beq_eq_false_iff_ne.mpr c5;have c5b1:(a0 != 3)=true:=bne_iff_ne.mpr c5
  by_cases c6:a0=4
  ·rw [if_pos c6] at H;have c6b0:(a0 == 4)=true:=beq_iff_eq.mpr c6;have c6b1:(a0 != 4)=false:=bne_eq_false_iff_eq.mpr c6;clear c6;obtain rfl:=os H
   go_enter Try.func141,Try.ntmps141
   go_wp2;go_ret;exact ⟨e1,dn⟩
  ·rw [if_neg c6] at H;have c6b0:(a0 == 4)=false:=beq_eq_false_iff_ne.mpr c6;have c6b1:(a0 != 4)=true:=bne_iff_ne.mpr c6
   by_cases c7:a0=5
   ·rw [if_pos c7] at H;have c7b0:(a0 == 5)=true:=beq_iff_eq.mpr c7;have c7b1:(a0 != 5)=false:=bne_eq_false_iff_eq.mpr c7;clear c7;obtain rfl:=os H
    go_enter Try.func141,Try.ntmps141
    go_wp2;go_ret;exact ⟨e1,dn⟩
   ·rw [if_neg c7] at H;have c7b0:(a0 == 5)=false:=beq_eq_false_iff_ne.mpr c7;have c7b1:(a0 != 5)=true:=bne_iff_ne.mpr c7
    by_cases c8:a0=6
    ·rw [if_pos c8] at H;have c8b0:(a0 == 6)=true:=beq_iff_eq.mpr c8;have c8b1:(a0 != 6)=false:=bne_eq_false_iff_eq.mpr c8;clear c8;replace H:=ob H;obtain ⟨A0,A90,H⟩:=H;replace H:(some A0)=some r:=H;have A9:=aA.mk A90;clear A90;obtain rfl:=os H
     go_enter Try.func141,Try.ntmps141
     go_wp2_with (first|((with_reducible refine aD (f:=166) rfl ?_);refine aT (some 30) rfl rfl Try.func166 (by kernel_rfl) rfl #[.int .i64 a1,.int .i64 a2,.int .i64 a3] rfl ml ?_;(with_reducible refine (jH.calls a1 a2 a3 A0 _ A9.out).mono ?_);rintro e w' ⟨rfl,⟨nd,rfl⟩⟩;refine ⟨_,rfl,?_⟩));go_ret;exact ⟨e1,dn⟩
    ·rw [if_neg c8] at H;have c8b0:(a0 == 6)=false:=beq_eq_false_iff_ne.mpr c8;have c8b1:(a0 != 6)=true:=bne_iff_ne.mpr c8
     by_cases c10:a0=7
     ·rw [if_pos c10] at H;have c10b0:(a0 == 7)=true:=beq_iff_eq.mpr c10;have c10b1:(a0 != 7)=false:=bne_eq_false_iff_eq.mpr c10;clear c10;replace H:=ob H;obtain ⟨A1,A110,H⟩:=H;replace H:(some A1)=some r:=H;have A11:=aA.mk A110;clear A110;obtain rfl:=os H
      go_enter Try.func141,Try.ntmps141
      go_wp2_with (first|((with_reducible refine aD (f:=167) rfl ?_);refine aT (some 36) rfl rfl Try.func167 (by kernel_rfl) rfl #[.int .i64 a1,.int .i64 a2,.int .i64 a3] rfl ml ?_;(with_reducible refine (jN.calls a1 a2 a3 A1 _ A11.out).mono ?_);rintro e w' ⟨rfl,⟨nd,rfl⟩⟩;refine ⟨_,rfl,?_⟩));go_ret;exact ⟨e1,dn⟩
     ·rw [if_neg c10] at H;have c10b0:(a0 == 7)=false:=beq_eq_false_iff_ne.mpr c10;have c10b1:(a0 != 7)=true:=bne_iff_ne.mpr c10
      by_cases c12:a0=8
      ·rw [if_pos c12] at H;have c12b0:(a0 == 8)=true:=beq_iff_eq.mpr c12;have c12b1:(a0 != 8)=false:=bne_eq_false_iff_eq.mpr c12;clear c12;replace H:=ob H;obtain ⟨A2,A130,H⟩:=H;replace H:(some A2)=some r:=H;have A13:=aA.mk A130;clear A130;obtain rfl:=os H
       go_enter Try.func141,Try.ntmps141
       go_wp2_with (first|((with_reducible refine aD (f:=168) rfl ?_);refine aT (some 42) rfl rfl Try.func168 (by kernel_rfl) rfl #[.int .i64 a1,.int .i64 a2,.int .i64 a3] rfl ml ?_;(with_reducible refine (jP.calls a1 a2 a3 A2 _ A13.out).mono ?_);rintro e w' ⟨rfl,⟨nd,rfl⟩⟩;refine ⟨_,rfl,?_⟩));go_ret;exact ⟨e1,dn⟩
      ·rw [if_neg c12] at H;have c12b0:(a0 == 8)=false:=beq_eq_false_iff_ne.mpr c12;have c12b1:(a0 != 8)=true:=bne_iff_ne.mpr c12
       by_cases c14:a0=9
       ·rw [if_pos c14] at H;have c14b0:(a0 == 9)=true:=beq_iff_eq.mpr c14;have c14b1:(a0 != 9)=false:=bne_eq_false_iff_eq.mpr c14;clear c14;replace H:=ob H;obtain ⟨A3,A150,H⟩:=H;replace H:(some A3)=some r:=H;have A15:=aA.mk A150;clear A150;obtain rfl:=os H
        go_enter Try.func141,Try.ntmps141
        go_wp2_with (first|((with_reducible refine aD (f:=169) rfl ?_);refine aT (some 48) rfl rfl Try.func169 (by kernel_rfl) rfl #[.int .i64 a1,.int .i64 a2,.int .i64 a3] rfl ml ?_;(with_reducible refine (jQ.calls a1 a2 a3 A3 _ A15.out).mono ?_);rintro e w' ⟨rfl,⟨nd,rfl⟩⟩;refine ⟨_,rfl,?_⟩));go_ret;exact ⟨e1,dn⟩
       ·rw [if_neg c14] at H;have c14b0:(a0 == 9)=false:=beq_eq_false_iff_ne.mpr c14;have c14b1:(a0 != 9)=true:=bne_iff_ne.mpr c14
        by_cases c16:a0=10
        ·rw [if_pos c16] at H;have c16b0:(a0 == 10)=true:=beq_iff_eq.mpr c16;have c16b1:(a0 != 10)=false:=bne_eq_false_iff_eq.mpr c16;clear c16;replace H:=ob H;obtain ⟨A4,A170,H⟩:=H;replace H:(some A4)=some r:=H;have A17:=aA.mk A170;clear A170;obtain rfl:=os H
         go_enter Try.func141,Try.ntmps141
         go_wp2_with (first|((with_reducible refine aD (f:=170) rfl ?_);refine aT (some 54) rfl rfl Try.func170 (by kernel_rfl) rfl #[.int .i64 a1,.int .i64 a2,.int .i64 a3] rfl ml ?_;(with_reducible refine (jL.calls a1 a2 a3 A4 _ A17.out).mono ?_);rintro e w' ⟨rfl,⟨nd,rfl⟩⟩;refine ⟨_,rfl,?_⟩));go_ret;exact ⟨e1,dn⟩
        ·rw [if_neg c16] at H;have c16b0:(a0 == 10)=false:=beq_eq_false_iff_ne.mpr c16;have c16b1:(a0 != 10)=true:=bne_iff_ne.mpr c16
         by_cases c18:a0=11
         ·rw [if_pos c18] at H;have c18b0:(a0 == 11)=true:=beq_iff_eq.mpr c18;have c18b1:(a0 != 11)=false:=bne_eq_false_iff_eq.mpr c18;clear c18;replace H:=ob H;obtain ⟨A5,A190,H⟩:=H;replace H:(some A5)=some r:=H;have A19:=aA.mk A190;clear A190;obtain rfl:=os H
          go_enter Try.func141,Try.ntmps141
          go_wp2_with (first|((with_reducible refine aD (f:=171) rfl ?_);refine aT (some 60) rfl rfl Try.func171 (by kernel_rfl) rfl #[.int .i64 a1,.int .i64 a2,.int .i64 a3] rfl ml ?_;(with_reducible refine (jE.calls a1 a2 a3 A5 _ A19.out).mono ?_);rintro e w' ⟨rfl,⟨nd,rfl⟩⟩;refine ⟨_,rfl,?_⟩));go_ret;exact ⟨e1,dn⟩
         ·rw [if_neg c18] at H;have c18b0:(a0 == 11)=false:=beq_eq_false_iff_ne.mpr c18;have c18b1:(a0 != 11)=true:=bne_iff_ne.mpr c18;replace H:=ob H;obtain ⟨A6,A200,H⟩:=H;replace H:(some A6)=some r:=H;have A20:=aA.mk A200;clear A200;obtain rfl:=os H
          go_enter Try.func141,Try.ntmps141
          go_wp2_with (first|((with_reducible refine aD (f:=172) rfl ?_);refine aT (some 64) rfl rfl Try.func172 (by kernel_rfl) rfl #[.int .i64 a1,.int .i64 a2,.int .i64 a3] rfl ml ?_;(with_reducible refine (jO.calls a1 a2 a3 A6 _ A20.out).mono ?_);rintro e w' ⟨rfl,⟨nd,rfl⟩⟩;refine ⟨_,rfl,?_⟩));go_ret;exact ⟨e1,dn⟩
def dI.f (a0:Int):Option (Bool):=(aY.f a0 0 255).bind fun A0=>(some A0)
theorem dI.calls (a0:Int) (r:Bool) (w:World) (h:dI.f a0=some r) :
  Calls Try.prog 139 #[.int .i64 a0] w fun e w'=>e = .returned (.bool r)∧bT w w':=by
 have H:((aY.f a0 0 255).bind fun A0=>(some A0))=some r:=h;clear h;replace H:=ob H;obtain ⟨A0,A20,H⟩:=H;replace H:(some A0)=some r:=H;have A2:=aA.mk A20;clear A20;obtain rfl:=os H
 go_enter Try.func139,Try.ntmps139
 go_wp2_with (first|((with_reducible refine aD (f:=61) rfl ?_);refine aT (some 4) rfl rfl Try.func61 (by kernel_rfl) rfl #[.int .i64 a0,.int .i64 0,.int .i64 255] rfl ml ?_;(with_reducible refine (aY.calls a0 0 255 A0 _ A2.out).mono ?_);rintro e w' ⟨rfl,⟨nd,rfl⟩⟩;refine ⟨_,rfl,?_⟩));go_ret;exact ⟨e1,dn⟩
mutual
def bL.j0:Nat→Int→Int→Int→Int→Bool→Int→Int→Int→Int→Int→Int→Option (Int)
 | 0,_,_,_,_,_,_,_,_,_,_,_=>none
 | k + 1,x1,x2,x3,x4,x34,x102000,x102001,x102002,x102003,x102004,x102005=>if x34=true then (some 0) else (if x102000=0 then (some x102002) else (if x102000=2 then ((gP.f x102001 x2).bind fun Ak=>(some Ak)) else ((aY.f x102000 3 12).bind fun Am=>(if Am=true then ((dU.f x102000 x102001 x2 x3).bind fun Ad=>(some Ad)) else (if x102000=13 then ((dQ.f (x2 == x3)).bind fun Ae=>(some Ae)) else (if x102000=14 then ((gH.f x1 x2 x3).bind fun Af=>(some Af)) else (if x102000=15 then ((eK.f x1 x2 x3).bind fun Ag=>(some Ag)) else (if x102000=16 then (bL.j1 k x1 x2 x3 x4 (decide (x102001 < x1)) x102000 x102001 x102002 x102003 x102004 x102005) else (bL.j1 k x1 x2 x3 x4 false x102000 x102001 x102002 x102003 x102004 x102005)))))))))
def bL.j1:Nat→Int→Int→Int→Int→Bool→Int→Int→Int→Int→Int→Int→Option (Int)
 | 0,_,_,_,_,_,_,_,_,_,_,_=>none
 | k + 1,x1,x2,x3,x4,x84,x102000,x102001,x102002,x102003,x102004,x102005=>if x84=true then (some x3) else (if x102000=16 then (if 0≤(IntKind.u64.wrap (wrap64 (x102001 - x1))) then (some (wrap64 ((shl .i64 x2 (IntKind.u64.wrap (wrap64 (x102001 - x1)))) + x3))) else (none)) else (if x102000=17 then ((gE.f x1 x2 x102002 x102001).bind fun Al=>(some Al)) else (if x102000=18 then (bL.j2 k x3 x4 (x2 == 1) x102000 x102001 x102002 x102003 x102004 x102005) else (bL.j2 k x3 x4 false x102000 x102001 x102002 x102003 x102004 x102005))))
def bL.j2:Nat→Int→Int→Bool→Int→Int→Int→Int→Int→Int→Option (Int)
 | 0,_,_,_,_,_,_,_,_,_=>none
 | k + 1,x3,x4,x119,x102000,x102001,x102002,x102003,x102004,x102005=>if x119=true then (some x3) else (if x102000=18 then (some x4) else (some 0))
end
def bL.f (k:Nat) (A0:Int) (A2:Int) (A3:Int) (A4:Int) (A5:Int) (A6:Int) (a1:Int) (a2:Int) (a3:Int) (a4:Int):Option (Int):=(bU.f A2).bind fun An=>(if An=true then ((bU.f a1).bind fun Ai=>(if Ai=true then ((dI.f a2).bind fun Ab=>(if Ab=true then ((dI.f a3).bind fun Aa=>(if Aa=true then ((dI.f a4).bind fun A7=>(bL.j0 k a1 a2 a3 a4 (!A7) A0 A2 A3 A4 A5 A6)) else (bL.j0 k a1 a2 a3 a4 true A0 A2 A3 A4 A5 A6))) else (bL.j0 k a1 a2 a3 a4 true A0 A2 A3 A4 A5 A6))) else (bL.j0 k a1 a2 a3 a4 true A0 A2 A3 A4 A5 A6))) else (bL.j0 k a1 a2 a3 a4 true A0 A2 A3 A4 A5 A6))
theorem bL.calls (k:Nat) (A0:Int) (A2:Int) (A3:Int) (A4:Int) (A5:Int) (A6:Int) (a1:Int) (a2:Int) (a3:Int) (a4:Int) (r:Int) (w:World) (h:bL.f k A0 A2 A3 A4 A5 A6 a1 a2 a3 a4=some r) :
  Calls Try.prog 126 #[.agg #[.int .i64 A0,.int .i64 A2,.int .i64 A3,.int .i64 A4,.int .i64 A5,.int .i64 A6],.int .i64 a1,.int .i64 a2,.int .i64 a3,.int .i64 a4] w fun e w'=>e = .returned (.int .i64 r)∧Below w.heap.size w w':=by
 have hu99:=Try.underlying99;have HB:=aA.mk (Below.refl w.heap.size w);have H:((bU.f A2).bind fun An=>(if An=true then ((bU.f a1).bind fun Ai=>(if Ai=true then ((dI.f a2).bind fun Ab=>(if Ab=true then ((dI.f a3).bind fun Aa=>(if Aa=true then ((dI.f a4).bind fun A7=>(bL.j0 k a1 a2 a3 a4 (!A7) A0 A2 A3 A4 A5 A6)) else (bL.j0 k a1 a2 a3 a4 true A0 A2 A3 A4 A5 A6))) else (bL.j0 k a1 a2 a3 a4 true A0 A2 A3 A4 A5 A6))) else (bL.j0 k a1 a2 a3 a4 true A0 A2 A3 A4 A5 A6))) else (bL.j0 k a1 a2 a3 a4 true A0 A2 A3 A4 A5 A6)))=some r:=h;clear h;have HC6:=aA.mk H;clear H
 go_enter Try.func126,Try.ntmps126
 go_upto_region 1 with (first|((with_reducible refine bM (N:=5) rfl ?_);refine bx (N:=5) (cs:=#[.int .i64 A0,.int .i64 A2,.int .i64 A3,.int .i64 A4,.int .i64 A5,.int .i64 A6]) (t:=99) ?_;intro Ah hg w7 hbox hb;have A1:=aA.mk (hbox);have GW101:=aA.mk ((by rw [hg];exact (aM (tb HB)):w.heap.size≤Ah));have GE101:=aA.mk ((by rw [hg];exact (aM (tb HB)):w.heap.size≤Ah));replace HB:=aA.mk (aE (tb HB) hb);clear hb hbox hg))
 (try simp only [Act.put,List.setIfInBounds_toArray,List.set_cons_zero,List.set_cons_succ])
 go_cut [34] (fun v34 wc=>∃ (kq:Nat) (Aj:Bool),v34 = .bool Aj∧aA (bL.j0 kq a1 a2 a3 a4 Aj A0 A2 A3 A4 A5 A6=some r)∧aA (kq≤k)∧aA (wc.heap[Ah]? = some (.cells #[.int .i64 A0,.int .i64 A2,.int .i64 A3,.int .i64 A4,.int .i64 A5,.int .i64 A6] 99 (0,0)))∧aA (Below w.heap.size w wc))
 case first =>
  have H:=HC6.out;clear HC6;replace H:=ob H;obtain ⟨An,A80,H⟩:=H
  try dsimp only at H
  have A8:=aA.mk A80;clear A80
  by_cases c9:An=true
  ·subst c9
   have H1:((bU.f a1).bind fun Ai=>(if Ai=true then ((dI.f a2).bind fun Ab=>(if Ab=true then ((dI.f a3).bind fun Aa=>(if Aa=true then ((dI.f a4).bind fun A7=>(bL.j0 k a1 a2 a3 a4 (!A7) A0 A2 A3 A4 A5 A6)) else (bL.j0 k a1 a2 a3 a4 true A0 A2 A3 A4 A5 A6))) else (bL.j0 k a1 a2 a3 a4 true A0 A2 A3 A4 A5 A6))) else (bL.j0 k a1 a2 a3 a4 true A0 A2 A3 A4 A5 A6)))=some r:=by rw [if_pos rfl] at H;exact H
   clear H;have H:=H1;clear H1;replace H:=ob H;obtain ⟨Ai,A100,H⟩:=H
   try dsimp only at H
   have A10:=aA.mk A100;clear A100
   by_cases c11:Ai=true
   ·subst c11
    have H1:((dI.f a2).bind fun Ab=>(if Ab=true then ((dI.f a3).bind fun Aa=>(if Aa=true then ((dI.f a4).bind fun A7=>(bL.j0 k a1 a2 a3 a4 (!A7) A0 A2 A3 A4 A5 A6)) else (bL.j0 k a1 a2 a3 a4 true A0 A2 A3 A4 A5 A6))) else (bL.j0 k a1 a2 a3 a4 true A0 A2 A3 A4 A5 A6)))=some r:=by rw [if_pos rfl] at H;exact H
    clear H;have H:=H1;clear H1;replace H:=ob H;obtain ⟨Ab,A120,H⟩:=H
    try dsimp only at H
    have A12:=aA.mk A120;clear A120
    by_cases c13:Ab=true
    ·subst c13
     have H1:((dI.f a3).bind fun Aa=>(if Aa=true then ((dI.f a4).bind fun A7=>(bL.j0 k a1 a2 a3 a4 (!A7) A0 A2 A3 A4 A5 A6)) else (bL.j0 k a1 a2 a3 a4 true A0 A2 A3 A4 A5 A6)))=some r:=by rw [if_pos rfl] at H;exact H
     clear H;have H:=H1;clear H1;replace H:=ob H;obtain ⟨Aa,A140,H⟩:=H
     try dsimp only at H
     have A14:=aA.mk A140;clear A140
     by_cases c15:Aa=true
     ·subst c15
      have H1:((dI.f a4).bind fun A7=>(bL.j0 k a1 a2 a3 a4 (!A7) A0 A2 A3 A4 A5 A6))=some r:=by rw [if_pos rfl] at H;exact H
      clear H;have H:=H1;clear H1;replace H:=ob H;obtain ⟨A7,A160,H⟩:=H;replace H:(bL.j0 k a1 a2 a3 a4 (!A7) A0 A2 A3 A4 A5 A6)=some r:=H;have A16:=aA.mk A160;clear A160;have H':=aA.mk H;clear H;have hcz17__:=eM A1;have hfz17__:=f_ A1;go_wp2_with (first|((with_reducible refine aD (f:=119) rfl ?_);refine aT (some 13) rfl rfl Try.func119 (by kernel_rfl) rfl #[.int .i64 A2] rfl ml ?_;(with_reducible refine (bU.calls A2 true _ A8.out).mono ?_);rintro e w' ⟨rfl,⟨nd,rfl⟩⟩;refine ⟨_,rfl,?_⟩)|(go_at_call 119;(try simp only [aJ,aK]);(with_reducible refine (bU.calls a1 true _ A10.out).mono ?_);rintro e w' ⟨rfl,⟨nd,rfl⟩⟩)|(go_at_call 139;(try simp only [aJ,aK]);(with_reducible refine (dI.calls a2 true _ A12.out).mono ?_);rintro e w' ⟨rfl,⟨nd,rfl⟩⟩)|(go_at_call 139;(try simp only [aJ,aK]);(with_reducible refine (dI.calls a3 true _ A14.out).mono ?_);rintro e w' ⟨rfl,⟨nd,rfl⟩⟩)|(go_at_call 139;(try simp only [aJ,aK]);(with_reducible refine (dI.calls a4 A7 _ A16.out).mono ?_);rintro e w' ⟨rfl,⟨nd,rfl⟩⟩));go_meet
      case rel=>exact ⟨_,(!A7),(by first|rfl|(simp;done)|(simp [*];done)),H',⟨by first|omega|exact Nat.le_refl _⟩,⟨dr A1⟩,⟨by exact tb HB⟩⟩
     ·replace c15:=Bool.eq_false_iff.mpr c15;subst c15
      have H1:(bL.j0 k a1 a2 a3 a4 true A0 A2 A3 A4 A5 A6)=some r:=by rw [if_neg (show ¬ (false=true) by decide)] at H;exact H
      clear H;have H:=H1;clear H1;have H':=aA.mk H;clear H;have hcz18__:=eM A1;have hfz18__:=f_ A1;go_wp2_with (first|((with_reducible refine aD (f:=119) rfl ?_);refine aT (some 13) rfl rfl Try.func119 (by kernel_rfl) rfl #[.int .i64 A2] rfl ml ?_;(with_reducible refine (bU.calls A2 true _ A8.out).mono ?_);rintro e w' ⟨rfl,⟨nd,rfl⟩⟩;refine ⟨_,rfl,?_⟩)|(go_at_call 119;(try simp only [aJ,aK]);(with_reducible refine (bU.calls a1 true _ A10.out).mono ?_);rintro e w' ⟨rfl,⟨nd,rfl⟩⟩)|(go_at_call 139;(try simp only [aJ,aK]);(with_reducible refine (dI.calls a2 true _ A12.out).mono ?_);rintro e w' ⟨rfl,⟨nd,rfl⟩⟩)|(go_at_call 139;(try simp only [aJ,aK]);(with_reducible refine (dI.calls a3 false _ A14.out).mono ?_);rintro e w' ⟨rfl,⟨nd,rfl⟩⟩));go_meet
      case rel=>exact ⟨_,(true),(by first|rfl|(simp;done)|(simp [*];done)),H',⟨by first|omega|exact Nat.le_refl _⟩,⟨dr A1⟩,⟨by exact tb HB⟩⟩
    ·replace c13:=Bool.eq_false_iff.mpr c13;subst c13
     have H1:(bL.j0 k a1 a2 a3 a4 true A0 A2 A3 A4 A5 A6)=some r:=by rw [if_neg (show ¬ (false=true) by decide)] at H;exact H
     clear H;have H:=H1;clear H1;have H':=aA.mk H;clear H;have hcz19__:=eM A1;have hfz19__:=f_ A1;go_wp2_with (first|((with_reducible refine aD (f:=119) rfl ?_);refine aT (some 13) rfl rfl Try.func119 (by kernel_rfl) rfl #[.int .i64 A2] rfl ml ?_;(with_reducible refine (bU.calls A2 true _ A8.out).mono ?_);rintro e w' ⟨rfl,⟨nd,rfl⟩⟩;refine ⟨_,rfl,?_⟩)|(go_at_call 119;(try simp only [aJ,aK]);(with_reducible refine (bU.calls a1 true _ A10.out).mono ?_);rintro e w' ⟨rfl,⟨nd,rfl⟩⟩)|(go_at_call 139;(try simp only [aJ,aK]);(with_reducible refine (dI.calls a2 false _ A12.out).mono ?_);rintro e w' ⟨rfl,⟨nd,rfl⟩⟩));go_meet
     case rel=>exact ⟨_,(true),(by first|rfl|(simp;done)|(simp [*];done)),H',⟨by first|omega|exact Nat.le_refl _⟩,⟨dr A1⟩,⟨by exact tb HB⟩⟩
   ·replace c11:=Bool.eq_false_iff.mpr c11;subst c11
    have H1:(bL.j0 k a1 a2 a3 a4 true A0 A2 A3 A4 A5 A6)=some r:=by rw [if_neg (show ¬ (false=true) by decide)] at H;exact H
    clear H;have H:=H1;clear H1;have H':=aA.mk H;clear H;have hcz20__:=eM A1;have hfz20__:=f_ A1;go_wp2_with (first|((with_reducible refine aD (f:=119) rfl ?_);refine aT (some 13) rfl rfl Try.func119 (by kernel_rfl) rfl #[.int .i64 A2] rfl ml ?_;(with_reducible refine (bU.calls A2 true _ A8.out).mono ?_);rintro e w' ⟨rfl,⟨nd,rfl⟩⟩;refine ⟨_,rfl,?_⟩)|(go_at_call 119;(try simp only [aJ,aK]);(with_reducible refine (bU.calls a1 false _ A10.out).mono ?_);rintro e w' ⟨rfl,⟨nd,rfl⟩⟩));go_meet
    case rel=>exact ⟨_,(true),(by first|rfl|(simp;done)|(simp [*];done)),H',⟨by first|omega|exact Nat.le_refl _⟩,⟨dr A1⟩,⟨by exact tb HB⟩⟩
  ·replace c9:=Bool.eq_false_iff.mpr c9;subst c9
   have H1:(bL.j0 k a1 a2 a3 a4 true A0 A2 A3 A4 A5 A6)=some r:=by rw [if_neg (show ¬ (false=true) by decide)] at H;exact H
   clear H;have H:=H1;clear H1;have H':=aA.mk H;clear H;have hcz21__:=eM A1;have hfz21__:=f_ A1;go_wp2_with (first|((with_reducible refine aD (f:=119) rfl ?_);refine aT (some 13) rfl rfl Try.func119 (by kernel_rfl) rfl #[.int .i64 A2] rfl ml ?_;(with_reducible refine (bU.calls A2 false _ A8.out).mono ?_);rintro e w' ⟨rfl,⟨nd,rfl⟩⟩;refine ⟨_,rfl,?_⟩));go_meet
   case rel=>exact ⟨_,(true),(by first|rfl|(simp;done)|(simp [*];done)),H',⟨by first|omega|exact Nat.le_refl _⟩,⟨dr A1⟩,⟨by exact tb HB⟩⟩
 case rest =>
  clear HC6;obtain ⟨kq,Aj,rfl,HA,HJ5,A1,HB⟩:=hcut
  cases kq with
  | zero=>exact absurd HA.out (by simp [bL.j0])
  | succ kj5 =>
   have H:=HA.out;clear HA;simp only [bL.j0] at H
   by_cases c22:Aj=true
   ·subst c22
    have H1:(some 0)=some r:=by rw [if_pos rfl] at H;exact H
    clear H;have H:=H1;clear H1;obtain rfl:=os H;go_wp2;go_ret;exact ⟨er,tb HB⟩
   ·replace c22:=Bool.eq_false_iff.mpr c22;subst c22
    have H1:(if A0=0 then (some A3) else (if A0=2 then ((gP.f A2 a2).bind fun Ak=>(some Ak)) else ((aY.f A0 3 12).bind fun Am=>(if Am=true then ((dU.f A0 A2 a2 a3).bind fun Ad=>(some Ad)) else (if A0=13 then ((dQ.f (a2 == a3)).bind fun Ae=>(some Ae)) else (if A0=14 then ((gH.f a1 a2 a3).bind fun Af=>(some Af)) else (if A0=15 then ((eK.f a1 a2 a3).bind fun Ag=>(some Ag)) else (if A0=16 then (bL.j1 kj5 a1 a2 a3 a4 (decide (A2 < a1)) A0 A2 A3 A4 A5 A6) else (bL.j1 kj5 a1 a2 a3 a4 false A0 A2 A3 A4 A5 A6)))))))))=some r:=by rw [if_neg (show ¬ (false=true) by decide)] at H;exact H
    clear H;have H:=H1;clear H1
    by_cases c23:A0=0
    ·rw [if_pos c23] at H;have c23b0:(A0 == 0)=true:=beq_iff_eq.mpr c23;have c23b1:(A0 != 0)=false:=bne_eq_false_iff_eq.mpr c23;clear c23;obtain rfl:=os H;have hcz24__:=eM A1;have hfz24__:=f_ A1;go_wp2;go_ret;exact ⟨er,tb HB⟩
    ·rw [if_neg c23] at H;have c23b0:(A0 == 0)=false:=beq_eq_false_iff_ne.mpr c23;have c23b1:(A0 != 0)=true:=bne_iff_ne.mpr c23
     by_cases c25:A0=2
     ·rw [if_pos c25] at H;have c25b0:(A0 == 2)=true:=beq_iff_eq.mpr c25;have c25b1:(A0 != 2)=false:=bne_eq_false_iff_eq.mpr c25;clear c25;replace H:=ob H;obtain ⟨Ak,A260,H⟩:=H;replace H:(some Ak)=some r:=H;have A26:=aA.mk A260;clear A260;obtain rfl:=os H;have hcz27__:=eM A1;have hfz27__:=f_ A1;go_wp2_with (first|((with_reducible refine aD (f:=140) rfl ?_);refine aT (some 48) rfl rfl Try.func140 (by kernel_rfl) rfl #[.int .i64 A2,.int .i64 a2] rfl ml ?_;(with_reducible refine (gP.calls A2 a2 Ak _ A26.out).mono ?_);rintro e w' ⟨rfl,⟨nd,rfl⟩⟩;refine ⟨_,rfl,?_⟩));go_ret;exact ⟨er,tb HB⟩
     ·rw [if_neg c25] at H;have c25b0:(A0 == 2)=false:=beq_eq_false_iff_ne.mpr c25;have c25b1:(A0 != 2)=true:=bne_iff_ne.mpr c25;replace H:=ob H;obtain ⟨Am,A280,H⟩:=H
      try dsimp only at H
      have A28:=aA.mk A280;clear A280
      by_cases c29:Am=true
      ·subst c29
       have H1:((dU.f A0 A2 a2 a3).bind fun Ad=>(some Ad))=some r:=by rw [if_pos rfl] at H;exact H
       clear H;have H:=H1;clear H1;replace H:=ob H;obtain ⟨Ad,A300,H⟩:=H;replace H:(some Ad)=some r:=H;have A30:=aA.mk A300;clear A300;obtain rfl:=os H;have hcz31__:=eM A1;have hfz31__:=f_ A1;go_wp2_with (first|((with_reducible refine aD (f:=61) rfl ?_);refine aT (some 52) rfl rfl Try.func61 (by kernel_rfl) rfl #[.int .i64 A0,.int .i64 3,.int .i64 12] rfl ml ?_;(with_reducible refine (aY.calls A0 3 12 true _ A28.out).mono ?_);rintro e w' ⟨rfl,⟨nd,rfl⟩⟩;refine ⟨_,rfl,?_⟩)|((with_reducible refine aD (f:=141) rfl ?_);refine aT (some 59) rfl rfl Try.func141 (by kernel_rfl) rfl #[.int .i64 A0,.int .i64 A2,.int .i64 a2,.int .i64 a3] rfl ml ?_;(with_reducible refine (dU.calls A0 A2 a2 a3 Ad _ A30.out).mono ?_);rintro e w' ⟨rfl,⟨nd,rfl⟩⟩;refine ⟨_,rfl,?_⟩));go_ret;exact ⟨er,tb HB⟩
      ·replace c29:=Bool.eq_false_iff.mpr c29;subst c29
       have H1:(if A0=13 then ((dQ.f (a2 == a3)).bind fun Ae=>(some Ae)) else (if A0=14 then ((gH.f a1 a2 a3).bind fun Af=>(some Af)) else (if A0=15 then ((eK.f a1 a2 a3).bind fun Ag=>(some Ag)) else (if A0=16 then (bL.j1 kj5 a1 a2 a3 a4 (decide (A2 < a1)) A0 A2 A3 A4 A5 A6) else (bL.j1 kj5 a1 a2 a3 a4 false A0 A2 A3 A4 A5 A6)))))=some r:=by rw [if_neg (show ¬ (false=true) by decide)] at H;exact H
       clear H;have H:=H1;clear H1
       by_cases c32:A0=13
       ·rw [if_pos c32] at H;have c32b0:(A0 == 13)=true:=beq_iff_eq.mpr c32;have c32b1:(A0 != 13)=false:=bne_eq_false_iff_eq.mpr c32;clear c32;replace H:=ob H;obtain ⟨Ae,A330,H⟩:=H;replace H:(some Ae)=some r:=H;have A33:=aA.mk A330;clear A330;obtain rfl:=os H;have hcz34__:=eM A1;have hfz34__:=f_ A1;go_wp2_with (first|((with_reducible refine aD (f:=61) rfl ?_);refine aT (some 52) rfl rfl Try.func61 (by kernel_rfl) rfl #[.int .i64 A0,.int .i64 3,.int .i64 12] rfl ml ?_;(with_reducible refine (aY.calls A0 3 12 false _ A28.out).mono ?_);rintro e w' ⟨rfl,⟨nd,rfl⟩⟩;refine ⟨_,rfl,?_⟩)|((with_reducible refine aD (f:=111) rfl ?_);refine aT (some 67) rfl rfl Try.func111 (by kernel_rfl) rfl #[.bool (a2 == a3)] rfl ml ?_;(with_reducible refine (dQ.calls (a2 == a3) Ae _ A33.out).mono ?_);rintro e w' ⟨rfl,⟨nd,rfl⟩⟩;refine ⟨_,rfl,?_⟩));go_ret;exact ⟨er,tb HB⟩
       ·rw [if_neg c32] at H;have c32b0:(A0 == 13)=false:=beq_eq_false_iff_ne.mpr c32;have c32b1:(A0 != 13)=true:=bne_iff_ne.mpr c32
        by_cases c35:A0=14
        ·rw [if_pos c35] at H;have c35b0:(A0 == 14)=true:=beq_iff_eq.mpr c35;have c35b1:(A0 != 14)=false:=bne_eq_false_iff_eq.mpr c35;clear c35;replace H:=ob H;obtain ⟨Af,A360,H⟩:=H;replace H:(some Af)=some r:=H;have A36:=aA.mk A360;clear A360;obtain rfl:=os H;have hcz37__:=eM A1;have hfz37__:=f_ A1;go_wp2_with (first|((with_reducible refine aD (f:=61) rfl ?_);refine aT (some 52) rfl rfl Try.func61 (by kernel_rfl) rfl #[.int .i64 A0,.int .i64 3,.int .i64 12] rfl ml ?_;(with_reducible refine (aY.calls A0 3 12 false _ A28.out).mono ?_);rintro e w' ⟨rfl,⟨nd,rfl⟩⟩;refine ⟨_,rfl,?_⟩)|((with_reducible refine aD (f:=142) rfl ?_);refine aT (some 75) rfl rfl Try.func142 (by kernel_rfl) rfl #[.int .i64 a1,.int .i64 a2,.int .i64 a3] rfl ml ?_;(with_reducible refine (gH.calls a1 a2 a3 Af _ A36.out).mono ?_);rintro e w' ⟨rfl,⟨nd,rfl⟩⟩;refine ⟨_,rfl,?_⟩));go_ret;exact ⟨er,tb HB⟩
        ·rw [if_neg c35] at H;have c35b0:(A0 == 14)=false:=beq_eq_false_iff_ne.mpr c35;have c35b1:(A0 != 14)=true:=bne_iff_ne.mpr c35
         by_cases c38:A0=15
         ·rw [if_pos c38] at H;have c38b0:(A0 == 15)=true:=beq_iff_eq.mpr c38;have c38b1:(A0 != 15)=false:=bne_eq_false_iff_eq.mpr c38;clear c38;replace H:=ob H;obtain ⟨Ag,A390,H⟩:=H;replace H:(some Ag)=some r:=H;have A39:=aA.mk A390;clear A390;obtain rfl:=os H;have hcz40__:=eM A1;have hfz40__:=f_ A1;go_wp2_with (first|((with_reducible refine aD (f:=61) rfl ?_);refine aT (some 52) rfl rfl Try.func61 (by kernel_rfl) rfl #[.int .i64 A0,.int .i64 3,.int .i64 12] rfl ml ?_;(with_reducible refine (aY.calls A0 3 12 false _ A28.out).mono ?_);rintro e w' ⟨rfl,⟨nd,rfl⟩⟩;refine ⟨_,rfl,?_⟩)|((with_reducible refine aD (f:=143) rfl ?_);refine aT (some 83) rfl rfl Try.func143 (by kernel_rfl) rfl #[.int .i64 a1,.int .i64 a2,.int .i64 a3] rfl ml ?_;(with_reducible refine (eK.calls a1 a2 a3 Ag _ A39.out).mono ?_);rintro e w' ⟨rfl,⟨nd,rfl⟩⟩;refine ⟨_,rfl,?_⟩));go_ret;exact ⟨er,tb HB⟩
         ·rw [if_neg c38] at H;have c38b0:(A0 == 15)=false:=beq_eq_false_iff_ne.mpr c38;have c38b1:(A0 != 15)=true:=bne_iff_ne.mpr c38;have HC41:=aA.mk H;clear H;have hcz42__:=eM A1;have hfz42__:=f_ A1
          go_upto_region 15 with (first|((with_reducible refine aD (f:=61) rfl ?_);refine aT (some 52) rfl rfl Try.func61 (by kernel_rfl) rfl #[.int .i64 A0,.int .i64 3,.int .i64 12] rfl ml ?_;(with_reducible refine (aY.calls A0 3 12 false _ A28.out).mono ?_);rintro e w' ⟨rfl,⟨nd,rfl⟩⟩;refine ⟨_,rfl,?_⟩))
          (try simp only [Act.put,List.setIfInBounds_toArray,List.set_cons_zero,List.set_cons_succ])
          go_cut [84] (fun v84 wc=>∃ (kq:Nat) (Ac:Bool),v84 = .bool Ac∧aA (bL.j1 kq a1 a2 a3 a4 Ac A0 A2 A3 A4 A5 A6=some r)∧aA (kq≤kj5)∧aA (wc.heap[Ah]? = some (.cells #[.int .i64 A0,.int .i64 A2,.int .i64 A3,.int .i64 A4,.int .i64 A5,.int .i64 A6] 99 (0,0)))∧aA (Below w.heap.size w wc))
          case first =>
           have H:=HC41.out;clear HC41
           by_cases c43:A0=16
           ·rw [if_pos c43] at H;have c43b0:(A0 == 16)=true:=beq_iff_eq.mpr c43;have c43b1:(A0 != 16)=false:=bne_eq_false_iff_eq.mpr c43;clear c43;(first|rw [c43b0]|(simp only [aJ,aK];rw [c43b0])|skip);have H':=aA.mk H;clear H;have hcz44__:=eM A1;have hfz44__:=f_ A1;go_wp2;go_meet
            case rel=>exact ⟨_,(decide (A2 < a1)),(by first|rfl|(simp;done)|(simp [*];done)),H',⟨by have:=HJ5.out;first|omega|exact Nat.le_refl _⟩,⟨dr A1⟩,⟨by exact tb HB⟩⟩
           ·rw [if_neg c43] at H;have c43b0:(A0 == 16)=false:=beq_eq_false_iff_ne.mpr c43;have c43b1:(A0 != 16)=true:=bne_iff_ne.mpr c43;(first|rw [c43b0]|(simp only [aJ,aK];rw [c43b0])|skip);have H':=aA.mk H;clear H;have hcz45__:=eM A1;have hfz45__:=f_ A1;go_wp2;go_meet
            case rel=>exact ⟨_,(false),(by first|rfl|(simp;done)|(simp [*];done)),H',⟨by have:=HJ5.out;first|omega|exact Nat.le_refl _⟩,⟨dr A1⟩,⟨by exact tb HB⟩⟩
          case rest =>
           clear HC41;obtain ⟨kq,Ac,rfl,HA,HJ40,A1,HB⟩:=hcut
           cases kq with
           | zero=>exact absurd HA.out (by simp [bL.j1])
           | succ kj40 =>
            have H:=HA.out;clear HA;simp only [bL.j1] at H
            by_cases c46:Ac=true
            ·subst c46
             have H1:(some a3)=some r:=by rw [if_pos rfl] at H;exact H
             clear H;have H:=H1;clear H1;obtain rfl:=os H;go_wp2;go_ret;exact ⟨er,tb HB⟩
            ·replace c46:=Bool.eq_false_iff.mpr c46;subst c46
             have H1:(if A0=16 then (if 0≤(IntKind.u64.wrap (wrap64 (A2 - a1))) then (some (wrap64 ((shl .i64 a2 (IntKind.u64.wrap (wrap64 (A2 - a1)))) + a3))) else (none)) else (if A0=17 then ((gE.f a1 a2 A3 A2).bind fun Al=>(some Al)) else (if A0=18 then (bL.j2 kj40 a3 a4 (a2 == 1) A0 A2 A3 A4 A5 A6) else (bL.j2 kj40 a3 a4 false A0 A2 A3 A4 A5 A6))))=some r:=by rw [if_neg (show ¬ (false=true) by decide)] at H;exact H
             clear H;have H:=H1;clear H1
             by_cases c47:A0=16
             ·rw [if_pos c47] at H;have c47b0:(A0 == 16)=true:=beq_iff_eq.mpr c47;have c47b1:(A0 != 16)=false:=bne_eq_false_iff_eq.mpr c47;clear c47;obtain ⟨ji48,hji48⟩:∃ j_:Int,(IntKind.u64.wrap (wrap64 (A2 - a1)))=j_:=⟨_,rfl⟩
              replace H:(if 0≤(ji48) then (some (wrap64 ((shl .i64 a2 (ji48)) + a3))) else (none))=some r:=by first|(rw [hji48] at H;exact H)|(simp only [hji48] at H ⊢;exact H)
              by_cases c49:0≤(ji48)
              ·rw [if_pos c49] at H;have c49b0:=eq_true c49;have c49b1:decide (0≤(ji48))=true:=decide_eq_true c49;clear c49;obtain ⟨ji50,hji50⟩:∃ j_:Int,(shl .i64 a2 (ji48))=j_:=⟨_,rfl⟩
               replace H:(some (wrap64 ((ji50) + a3)))=some r:=by first|(rw [hji50] at H;exact H)|(simp only [hji50] at H ⊢;exact H)
               have hji50_:(IntKind.i64.wrap (a2 * 2 ^ min (ji48).toNat 64))=ji50:=hji50;have hji50z:(ji48)≤64→(IntKind.i64.wrap (a2 * 2 ^ (ji48).toNat))=ji50:=gK hji50;have hji50y:(wrap64 (a2 * 2 ^ min (ji48).toNat 64))=ji50:=(aJ _).symm.trans hji50_
               have hji50x:(ji48)≤64→(wrap64 (a2 * 2 ^ (ji48).toNat))=ji50:=fun h_=>(aJ _).symm.trans (hji50z h_)
               obtain rfl:=os H;have hcz51__:=eM A1;have hfz51__:=f_ A1;go_wp2;go_ret;exact ⟨by first|rfl|(simp [dS,dT] <;> rfl)|(simp only [← hji48,← hji50];first|rfl|(simp [dS,dT] <;> rfl))|(simp [*,dS,dT] <;> rfl),tb HB⟩
              ·rw [if_neg c49] at H;exact absurd H (by simp)
             ·rw [if_neg c47] at H;have c47b0:(A0 == 16)=false:=beq_eq_false_iff_ne.mpr c47;have c47b1:(A0 != 16)=true:=bne_iff_ne.mpr c47
              by_cases c52:A0=17
              ·rw [if_pos c52] at H;have c52b0:(A0 == 17)=true:=beq_iff_eq.mpr c52;have c52b1:(A0 != 17)=false:=bne_eq_false_iff_eq.mpr c52;clear c52;replace H:=ob H;obtain ⟨Al,A530,H⟩:=H;replace H:(some Al)=some r:=H;have A53:=aA.mk A530;clear A530;obtain rfl:=os H;have hcz54__:=eM A1;have hfz54__:=f_ A1;go_wp2_with (first|((with_reducible refine aD (f:=144) rfl ?_);refine aT (some 118) rfl rfl Try.func144 (by kernel_rfl) rfl #[.int .i64 a1,.int .i64 a2,.int .i64 A3,.int .i64 A2] rfl ml ?_;(with_reducible refine (gE.calls a1 a2 A3 A2 Al _ A53.out).mono ?_);rintro e w' ⟨rfl,⟨nd,rfl⟩⟩;refine ⟨_,rfl,?_⟩));go_ret;exact ⟨er,tb HB⟩
              ·rw [if_neg c52] at H;have c52b0:(A0 == 17)=false:=beq_eq_false_iff_ne.mpr c52;have c52b1:(A0 != 17)=true:=bne_iff_ne.mpr c52;have HC55:=aA.mk H;clear H;have hcz56__:=eM A1;have hfz56__:=f_ A1
               go_upto_region 21 with (fail)
               go_cut [119] (fun v119 wc=>∃ (kq:Nat) (A9:Bool),v119 = .bool A9∧aA (bL.j2 kq a3 a4 A9 A0 A2 A3 A4 A5 A6=some r)∧aA (kq≤kj40)∧aA (wc.heap[Ah]? = some (.cells #[.int .i64 A0,.int .i64 A2,.int .i64 A3,.int .i64 A4,.int .i64 A5,.int .i64 A6] 99 (0,0)))∧aA (Below w.heap.size w wc))
               case first =>
                have H:=HC55.out;clear HC55
                by_cases c57:A0=18
                ·rw [if_pos c57] at H;have c57b0:(A0 == 18)=true:=beq_iff_eq.mpr c57;have c57b1:(A0 != 18)=false:=bne_eq_false_iff_eq.mpr c57;clear c57;(first|rw [c57b0]|(simp only [aJ,aK];rw [c57b0])|skip);have H':=aA.mk H;clear H;have hcz58__:=eM A1;have hfz58__:=f_ A1;go_wp2;go_meet
                 case rel=>exact ⟨_,((a2 == 1)),(by first|rfl|(simp;done)|(simp [*];done)),(by first|exact H'|(rw [hji50];exact H')),⟨by have:=HJ5.out;have:=HJ40.out;first|omega|exact Nat.le_refl _⟩,⟨dr A1⟩,⟨by exact tb HB⟩⟩
                ·rw [if_neg c57] at H;have c57b0:(A0 == 18)=false:=beq_eq_false_iff_ne.mpr c57;have c57b1:(A0 != 18)=true:=bne_iff_ne.mpr c57;(first|rw [c57b0]|(simp only [aJ,aK];rw [c57b0])|skip);have H':=aA.mk H;clear H;have hcz59__:=eM A1;have hfz59__:=f_ A1;go_wp2;go_meet
                 case rel=>exact ⟨_,(false),(by first|rfl|(simp;done)|(simp [*];done)),(by first|exact H'|(rw [hji50];exact H')),⟨by have:=HJ5.out;have:=HJ40.out;first|omega|exact Nat.le_refl _⟩,⟨dr A1⟩,⟨by exact tb HB⟩⟩
               case rest =>
                clear HC55;obtain ⟨kq,A9,rfl,HA,HJ54,A1,HB⟩:=hcut
                cases kq with
                | zero=>exact absurd HA.out (by simp [bL.j2])
                | succ kj54 =>
                 have H:=HA.out;clear HA;simp only [bL.j2] at H
                 by_cases c60:A9=true
                 ·subst c60
                  have H1:(some a3)=some r:=by rw [if_pos rfl] at H;exact H
                  clear H;have H:=H1;clear H1;obtain rfl:=os H;go_wp2;go_ret;exact ⟨er,tb HB⟩
                 ·replace c60:=Bool.eq_false_iff.mpr c60;subst c60
                  have H1:(if A0=18 then (some a4) else (some 0))=some r:=by rw [if_neg (show ¬ (false=true) by decide)] at H;exact H
                  clear H;have H:=H1;clear H1
                  by_cases c61:A0=18
                  ·rw [if_pos c61] at H;have c61b0:(A0 == 18)=true:=beq_iff_eq.mpr c61;have c61b1:(A0 != 18)=false:=bne_eq_false_iff_eq.mpr c61;clear c61;obtain rfl:=os H;have hcz62__:=eM A1;have hfz62__:=f_ A1;go_wp2;go_ret;exact ⟨er,tb HB⟩
                  ·rw [if_neg c61] at H;have c61b0:(A0 == 18)=false:=beq_eq_false_iff_ne.mpr c61;have c61b1:(A0 != 18)=true:=bne_iff_ne.mpr c61;obtain rfl:=os H;have hcz63__:=eM A1;have hfz63__:=f_ A1;go_wp2;go_ret;exact ⟨er,tb HB⟩
def dC.f (A0:Int) (A3:Int) (A4:Int) (A5:Int) (A6:Int) (A7:Int):Option (Bool):=if A0=19 then (some true) else (some (A0 == 20))
theorem dC.calls (A0:Int) (A3:Int) (A4:Int) (A5:Int) (A6:Int) (A7:Int) (r:Bool) (w:World) (h:dC.f A0 A3 A4 A5 A6 A7=some r) :
  Calls Try.prog 123 #[.agg #[.int .i64 A0,.int .i64 A3,.int .i64 A4,.int .i64 A5,.int .i64 A6,.int .i64 A7]] w fun e w'=>e = .returned (.bool r)∧Below w.heap.size w w':=by
 have hu99:=Try.underlying99;have HB:=aA.mk (Below.refl w.heap.size w);have H:(if A0=19 then (some true) else (some (A0 == 20)))=some r:=h;clear h
 by_cases c2:A0=19
 ·rw [if_pos c2] at H;have c2b0:(A0 == 19)=true:=beq_iff_eq.mpr c2;have c2b1:(A0 != 19)=false:=bne_eq_false_iff_eq.mpr c2;clear c2;obtain rfl:=os H
  go_enter Try.func123,Try.ntmps123
  go_wp2_with (first|((with_reducible refine bM (N:=1) rfl ?_);refine bx (N:=1) (cs:=#[.int .i64 A0,.int .i64 A3,.int .i64 A4,.int .i64 A5,.int .i64 A6,.int .i64 A7]) (t:=99) ?_;intro A1 hg w3 hbox hb;have A2:=aA.mk (hbox);have A8:=aA.mk ((by rw [hg];exact (aM (tb HB)):w.heap.size≤A1));have A9:=aA.mk ((by rw [hg];exact (aM (tb HB)):w.heap.size≤A1));replace HB:=aA.mk (aE (tb HB) hb);clear hb hbox hg;have hcz4__:=eM A2;have hfz4__:=f_ A2));go_ret;exact ⟨er,tb HB⟩
 ·rw [if_neg c2] at H;have c2b0:(A0 == 19)=false:=beq_eq_false_iff_ne.mpr c2;have c2b1:(A0 != 19)=true:=bne_iff_ne.mpr c2;obtain rfl:=os H
  go_enter Try.func123,Try.ntmps123
  go_wp2_with (first|((with_reducible refine bM (N:=1) rfl ?_);refine bx (N:=1) (cs:=#[.int .i64 A0,.int .i64 A3,.int .i64 A4,.int .i64 A5,.int .i64 A6,.int .i64 A7]) (t:=99) ?_;intro A1 hg w5 hbox hb;have A2:=aA.mk (hbox);have A8:=aA.mk ((by rw [hg];exact (aM (tb HB)):w.heap.size≤A1));have A9:=aA.mk ((by rw [hg];exact (aM (tb HB)):w.heap.size≤A1));replace HB:=aA.mk (aE (tb HB) hb);clear hb hbox hg;have hcz6__:=eM A2;have hfz6__:=f_ A2));go_ret;exact ⟨er,tb HB⟩
def dB.j0:Nat→Bool→Int→Int→Int→Int→Int→Int→Option (List Int)
 | 0,_,_,_,_,_,_,_=>none
 | k + 1,x3,x102000,x102001,x102002,x102003,x102004,x102005=>if x3=true then (some (([x102003]:List Int))) else ((aY.f x102000 3 16).bind fun Aa=>(if Aa=true then (some (([x102003,x102004]:List Int))) else (if x102000=18 then (some (([x102003,x102004,x102005]:List Int))) else (some (([]:List Int))))))
def dB.f (k:Nat) (A0:Int) (A5:Int) (A6:Int) (A2:Int) (A3:Int) (A4:Int):Option (List Int):=if A0=2 then (dB.j0 k true A0 A5 A6 A2 A3 A4) else (if A0=17 then (dB.j0 k true A0 A5 A6 A2 A3 A4) else ((dC.f A0 A5 A6 A2 A3 A4).bind fun A9=>(dB.j0 k A9 A0 A5 A6 A2 A3 A4)))
theorem dB.calls (k:Nat) (A0:Int) (A5:Int) (A6:Int) (A2:Int) (A3:Int) (A4:Int) (r:List Int) (w:World) (h:dB.f k A0 A5 A6 A2 A3 A4=some r) :
  Calls Try.prog 125 #[.agg #[.int .i64 A0,.int .i64 A5,.int .i64 A6,.int .i64 A2,.int .i64 A3,.int .i64 A4]] w fun e w'=>∃ v0_:Value,e = .returned (v0_)∧Kd.R (Kd.int .i64) 3 w' w.heap.size (fun _=>True) v0_ r∧Below w.heap.size w w':=by
 have hu99:=Try.underlying99;have HB:=aA.mk (Below.refl w.heap.size w);have H:(if A0=2 then (dB.j0 k true A0 A5 A6 A2 A3 A4) else (if A0=17 then (dB.j0 k true A0 A5 A6 A2 A3 A4) else ((dC.f A0 A5 A6 A2 A3 A4).bind fun A9=>(dB.j0 k A9 A0 A5 A6 A2 A3 A4))))=some r:=h;clear h;have HC2:=aA.mk H;clear H
 go_enter Try.func125,Try.ntmps125
 go_upto_region 1 with (first|((with_reducible refine bM (N:=1) rfl ?_);refine bx (N:=1) (cs:=#[.int .i64 A0,.int .i64 A5,.int .i64 A6,.int .i64 A2,.int .i64 A3,.int .i64 A4]) (t:=99) ?_;intro A7 hg w3 hbox hb;have A1:=aA.mk (hbox);have GW101:=aA.mk ((by rw [hg];exact (aM (tb HB)):w.heap.size≤A7));have GE101:=aA.mk ((by rw [hg];exact (aM (tb HB)):w.heap.size≤A7));replace HB:=aA.mk (aE (tb HB) hb);clear hb hbox hg))
 (try simp only [Act.put,List.setIfInBounds_toArray,List.set_cons_zero,List.set_cons_succ])
 go_cut [3] (fun v3 wc=>∃ (kq:Nat) (Ab:Bool),v3 = .bool Ab∧aA (dB.j0 kq Ab A0 A5 A6 A2 A3 A4=some r)∧aA (kq≤k)∧aA (wc.heap[A7]? = some (.cells #[.int .i64 A0,.int .i64 A5,.int .i64 A6,.int .i64 A2,.int .i64 A3,.int .i64 A4] 99 (0,0)))∧aA (Below w.heap.size w wc))
 case first =>
  have H:=HC2.out;clear HC2
  by_cases c4:A0=2
  ·rw [if_pos c4] at H;have c4b0:(A0 == 2)=true:=beq_iff_eq.mpr c4;have c4b1:(A0 != 2)=false:=bne_eq_false_iff_eq.mpr c4;clear c4;(first|rw [c4b0]|(simp only [aJ,aK];rw [c4b0])|skip);have H':=aA.mk H;clear H;have hcz5__:=eM A1;have hfz5__:=f_ A1;go_wp2;go_meet
   case rel=>exact ⟨_,(true),(by first|rfl|(simp;done)|(simp [*];done)),H',⟨by first|omega|exact Nat.le_refl _⟩,⟨dr A1⟩,⟨by exact tb HB⟩⟩
  ·rw [if_neg c4] at H;have c4b0:(A0 == 2)=false:=beq_eq_false_iff_ne.mpr c4;have c4b1:(A0 != 2)=true:=bne_iff_ne.mpr c4;(first|rw [c4b0]|(simp only [aJ,aK];rw [c4b0])|skip)
   by_cases c6:A0=17
   ·rw [if_pos c6] at H;have c6b0:(A0 == 17)=true:=beq_iff_eq.mpr c6;have c6b1:(A0 != 17)=false:=bne_eq_false_iff_eq.mpr c6;clear c6;have H':=aA.mk H;clear H;have hcz7__:=eM A1;have hfz7__:=f_ A1;go_wp2;go_meet
    case rel=>exact ⟨_,(true),(by first|rfl|(simp;done)|(simp [*];done)),H',⟨by first|omega|exact Nat.le_refl _⟩,⟨dr A1⟩,⟨by exact tb HB⟩⟩
   ·rw [if_neg c6] at H;have c6b0:(A0 == 17)=false:=beq_eq_false_iff_ne.mpr c6;have c6b1:(A0 != 17)=true:=bne_iff_ne.mpr c6;replace H:=ob H;obtain ⟨A9,A80,H⟩:=H;replace H:(dB.j0 k A9 A0 A5 A6 A2 A3 A4)=some r:=H;have A8:=aA.mk A80;clear A80;have H':=aA.mk H;clear H;have hcz9__:=eM A1;have hfz9__:=f_ A1;go_wp2_with (first|(go_at_call 123;(try simp only [aJ,aK]);(with_reducible refine (dC.calls A0 A5 A6 A2 A3 A4 A9 _ A8.out).mono ?_);rintro e w10 ⟨rfl,hb⟩;replace A1:=aA.mk (aQ (g:=A7) (o := .cells #[.int .i64 A0,.int .i64 A5,.int .i64 A6,.int .i64 A2,.int .i64 A3,.int .i64 A4] 99 (0,0)) (dr A1) hb);replace HB:=aA.mk (aE (tb HB) hb);(try clear hb);(try clear hb2);(try clear hk);(try clear hi)));go_meet
    case rel=>exact ⟨_,(A9),(by first|rfl|(simp;done)|(simp [*];done)),H',⟨by first|omega|exact Nat.le_refl _⟩,⟨dr A1⟩,⟨by exact tb HB⟩⟩
 case rest =>
  clear HC2;obtain ⟨kq,Ab,rfl,HA,HJ1,A1,HB⟩:=hcut
  cases kq with
  | zero=>exact absurd HA.out (by simp [dB.j0])
  | succ kj1 =>
   have H:=HA.out;clear HA;simp only [dB.j0] at H
   by_cases c11:Ab=true
   ·subst c11
    have H1:(some (([A2]:List Int)))=some r:=by rw [if_pos rfl] at H;exact H
    clear H;have H:=H1;clear H1;obtain ⟨y103,hy103⟩:∃ y_:List Int,y_=(([A2]:List Int)):=⟨_,rfl⟩;replace H:(some y103)=some r:=gM hy103 H;have Ny103:=aA.mk hy103;clear hy103;obtain rfl:=os H;have hcz12__:=eM A1;have hfz12__:=f_ A1;go_wp2_with (first|((with_reducible refine bM (N:=18) rfl ?_);refine Kd.R_lit (Kd.int .i64) _ 3 ?hg (N:=18) ?hd (xs:=([A2]:List Int)) (inner:=[.int .i64 A2]) (ok:=fun _=>True) (okp:=fun _=>True) ?hr ?hp (fun _ hk=>hk) trivial (Below.refl _ _) (Nat.le_refl _) (by simp) ?_;(case hd=>rfl);(case hg=>rfl);(case hr=>first|(go_simp;done)|(go_simp;rfl));(case hp=>exact (cP.one (show Kd.M (Kd.int .i64) _ _ _ A2 [.int .i64 A2] from rfl) (cP.none _ _)));intro v104 w13 ho14 hb hg_ hnew_;clear hg_ hnew_;(first|rw [← Ny103.out] at ho14|(simp only [Int.reduceToNat] at ho14;rw [← Ny103.out] at ho14));have Ac:=aA.mk (Kd.R_lower ho14 (aM (tb HB)));replace A1:=aA.mk (aQ (g:=A7) (o := .cells #[.int .i64 A0,.int .i64 A5,.int .i64 A6,.int .i64 A2,.int .i64 A3,.int .i64 A4] 99 (0,0)) (dr A1) hb);replace HB:=aA.mk (aE (tb HB) hb);clear hb ho14));go_ret;exact ⟨_,er,ra Ac,tb HB⟩
   ·replace c11:=Bool.eq_false_iff.mpr c11;subst c11
    have H1:((aY.f A0 3 16).bind fun Aa=>(if Aa=true then (some (([A2,A3]:List Int))) else (if A0=18 then (some (([A2,A3,A4]:List Int))) else (some (([]:List Int))))))=some r:=by rw [if_neg (show ¬ (false=true) by decide)] at H;exact H
    clear H;have H:=H1;clear H1;replace H:=ob H;obtain ⟨Aa,A150,H⟩:=H
    try dsimp only at H
    have A15:=aA.mk A150;clear A150
    by_cases c16:Aa=true
    ·subst c16
     have H1:(some (([A2,A3]:List Int)))=some r:=by rw [if_pos rfl] at H;exact H
     clear H;have H:=H1;clear H1;obtain ⟨y107,hy107⟩:∃ y_:List Int,y_=(([A2,A3]:List Int)):=⟨_,rfl⟩;replace H:(some y107)=some r:=gM hy107 H;have Ny107:=aA.mk hy107;clear hy107;obtain rfl:=os H;have hcz17__:=eM A1;have hfz17__:=f_ A1;go_wp2_with (first|((with_reducible refine aD (f:=61) rfl ?_);refine aT (some 22) rfl rfl Try.func61 (by kernel_rfl) rfl #[.int .i64 A0,.int .i64 3,.int .i64 16] rfl ml ?_;(with_reducible refine (aY.calls A0 3 16 true _ A15.out).mono ?_);rintro e w' ⟨rfl,⟨nd,rfl⟩⟩;refine ⟨_,rfl,?_⟩)|((with_reducible refine bM (N:=27) rfl ?_);refine Kd.R_lit (Kd.int .i64) _ 3 ?hg (N:=27) ?hd (xs:=([A2,A3]:List Int)) (inner:=[.int .i64 A2,.int .i64 A3]) (ok:=fun _=>True) (okp:=fun _=>True) ?hr ?hp (fun _ hk=>hk) trivial (Below.refl _ _) (Nat.le_refl _) (by simp) ?_;(case hd=>rfl);(case hg=>rfl);(case hr=>first|(go_simp;done)|(go_simp;rfl));(case hp=>exact (cP.one (show Kd.M (Kd.int .i64) _ _ _ A2 [.int .i64 A2] from rfl) (cP.one (show Kd.M (Kd.int .i64) _ _ _ A3 [.int .i64 A3] from rfl) (cP.none _ _))));intro v108 w18 ho19 hb hg_ hnew_;clear hg_ hnew_;(first|rw [← Ny107.out] at ho19|(simp only [Int.reduceToNat] at ho19;rw [← Ny107.out] at ho19));have Ad:=aA.mk (Kd.R_lower ho19 (aM (tb HB)));replace A1:=aA.mk (aQ (g:=A7) (o := .cells #[.int .i64 A0,.int .i64 A5,.int .i64 A6,.int .i64 A2,.int .i64 A3,.int .i64 A4] 99 (0,0)) (dr A1) hb);replace HB:=aA.mk (aE (tb HB) hb);clear hb ho19));go_ret;exact ⟨_,er,ra Ad,tb HB⟩
    ·replace c16:=Bool.eq_false_iff.mpr c16;subst c16
     have H1:(if A0=18 then (some (([A2,A3,A4]:List Int))) else (some (([]:List Int))))=some r:=by rw [if_neg (show ¬ (false=true) by decide)] at H;exact H
     clear H;have H:=H1;clear H1
     by_cases c20:A0=18
     ·rw [if_pos c20] at H;have c20b0:(A0 == 18)=true:=beq_iff_eq.mpr c20;have c20b1:(A0 != 18)=false:=bne_eq_false_iff_eq.mpr c20;clear c20;obtain ⟨y110,hy110⟩:∃ y_:List Int,y_=(([A2,A3,A4]:List Int)):=⟨_,rfl⟩;replace H:(some y110)=some r:=gM hy110 H;have Ny110:=aA.mk hy110;clear hy110;obtain rfl:=os H;have hcz21__:=eM A1;have hfz21__:=f_ A1;go_wp2_with (first|((with_reducible refine aD (f:=61) rfl ?_);refine aT (some 22) rfl rfl Try.func61 (by kernel_rfl) rfl #[.int .i64 A0,.int .i64 3,.int .i64 16] rfl ml ?_;(with_reducible refine (aY.calls A0 3 16 false _ A15.out).mono ?_);rintro e w' ⟨rfl,⟨nd,rfl⟩⟩;refine ⟨_,rfl,?_⟩)|((with_reducible refine bM (N:=38) rfl ?_);refine Kd.R_lit (Kd.int .i64) _ 3 ?hg (N:=38) ?hd (xs:=([A2,A3,A4]:List Int)) (inner:=[.int .i64 A2,.int .i64 A3,.int .i64 A4]) (ok:=fun _=>True) (okp:=fun _=>True) ?hr ?hp (fun _ hk=>hk) trivial (Below.refl _ _) (Nat.le_refl _) (by simp) ?_;(case hd=>rfl);(case hg=>rfl);(case hr=>first|(go_simp;done)|(go_simp;rfl));(case hp=>exact (cP.one (show Kd.M (Kd.int .i64) _ _ _ A2 [.int .i64 A2] from rfl) (cP.one (show Kd.M (Kd.int .i64) _ _ _ A3 [.int .i64 A3] from rfl) (cP.one (show Kd.M (Kd.int .i64) _ _ _ A4 [.int .i64 A4] from rfl) (cP.none _ _)))));intro v111 w22 ho23 hb hg_ hnew_;clear hg_ hnew_;(first|rw [← Ny110.out] at ho23|(simp only [Int.reduceToNat] at ho23;rw [← Ny110.out] at ho23));have Ae:=aA.mk (Kd.R_lower ho23 (aM (tb HB)));replace A1:=aA.mk (aQ (g:=A7) (o := .cells #[.int .i64 A0,.int .i64 A5,.int .i64 A6,.int .i64 A2,.int .i64 A3,.int .i64 A4] 99 (0,0)) (dr A1) hb);replace HB:=aA.mk (aE (tb HB) hb);clear hb ho23));go_ret;exact ⟨_,er,ra Ae,tb HB⟩
     ·rw [if_neg c20] at H;have c20b0:(A0 == 18)=false:=beq_eq_false_iff_ne.mpr c20;have c20b1:(A0 != 18)=true:=bne_iff_ne.mpr c20;obtain ⟨y113,hy113⟩:∃ y_:List Int,y_=(([]:List Int)):=⟨_,rfl⟩;replace H:(some y113)=some r:=gM hy113 H;have Ny113:=aA.mk hy113;clear hy113;obtain rfl:=os H;have hcz24__:=eM A1;have hfz24__:=f_ A1;go_wp2_with (first|((with_reducible refine aD (f:=61) rfl ?_);refine aT (some 22) rfl rfl Try.func61 (by kernel_rfl) rfl #[.int .i64 A0,.int .i64 3,.int .i64 16] rfl ml ?_;(with_reducible refine (aY.calls A0 3 16 false _ A15.out).mono ?_);rintro e w' ⟨rfl,⟨nd,rfl⟩⟩;refine ⟨_,rfl,?_⟩)|((with_reducible refine bM (N:=39) rfl ?_);refine Kd.R_lit (Kd.int .i64) _ 3 ?hg (N:=39) ?hd (xs:=([]:List Int)) (inner:=[]) (ok:=fun _=>True) (okp:=fun _=>True) ?hr ?hp (fun _ hk=>hk) trivial (Below.refl _ _) (Nat.le_refl _) (by simp) ?_;(case hd=>rfl);(case hg=>rfl);(case hr=>first|(go_simp;done)|(go_simp;rfl));(case hp=>exact (cP.none _ _));intro v114 w25 ho26 hb hg_ hnew_;clear hg_ hnew_;(first|rw [← Ny113.out] at ho26|(simp only [Int.reduceToNat] at ho26;rw [← Ny113.out] at ho26));have Af:=aA.mk (Kd.R_lower ho26 (aM (tb HB)));replace A1:=aA.mk (aQ (g:=A7) (o := .cells #[.int .i64 A0,.int .i64 A5,.int .i64 A6,.int .i64 A2,.int .i64 A3,.int .i64 A4] 99 (0,0)) (dr A1) hb);replace HB:=aA.mk (aE (tb HB) hb);clear hb ho26));go_ret;exact ⟨_,er,ra Af,tb HB⟩
def eF.f (a0:Int):Option (Bool):=(aY.f a0 0 7).bind fun A0=>(some A0)
theorem eF.calls (a0:Int) (r:Bool) (w:World) (h:eF.f a0=some r) :
  Calls Try.prog 120 #[.int .i64 a0] w fun e w'=>e = .returned (.bool r)∧bT w w':=by
 have H:((aY.f a0 0 7).bind fun A0=>(some A0))=some r:=h;clear h;replace H:=ob H;obtain ⟨A0,A20,H⟩:=H;replace H:(some A0)=some r:=H;have A2:=aA.mk A20;clear A20;obtain rfl:=os H
 go_enter Try.func120,Try.ntmps120
 go_wp2_with (first|((with_reducible refine aD (f:=61) rfl ?_);refine aT (some 4) rfl rfl Try.func61 (by kernel_rfl) rfl #[.int .i64 a0,.int .i64 0,.int .i64 7] rfl ml ?_;(with_reducible refine (aY.calls a0 0 7 A0 _ A2.out).mono ?_);rintro e w' ⟨rfl,⟨nd,rfl⟩⟩;refine ⟨_,rfl,?_⟩));go_ret;exact ⟨e1,dn⟩
end Go.Proofs.Ythipjoioicmcnaa.G
namespace Go.Proofs.Ythipjoioicmcnaa.G
open Go.RowKit Go.Proofs.YthipjoioicmcnaaW.PrintWords Go.Proofs.YthipjoioicmcnaaW.PrintLast Go.Proofs.YthipjoioicmcnaaW.PrintMore
attribute [local go_sem] eS eR fI fJ eI eJ eU eT
theorem aCQ (d:Nat) (w:World) (x0 y0:Int) (x1 y1:Int) (x2 y2:Int) (x3 y3:Int) (x4 y4:Int) (x5 y5:Int) :
  (Op.equalIn (d + 2) 99 (.agg #[.int .i64 x0,.int .i64 x1,.int .i64 x2,.int .i64 x3,.int .i64 x4,.int .i64 x5]) (.agg #[.int .i64 y0,.int .i64 y1,.int .i64 y2,.int .i64 y3,.int .i64 y4,.int .i64 y5])).run Try.prog w = .ok (x0 == y0 && (x1 == y1 && (x2 == y2 && (x3 == y3 && (x4 == y4 && (x5 == y5)))))) w:=by
 refine aBZ Try.underlying99 (by kernel_rfl) ?_
 refine kK (by rfl) (by go_simp;rfl) (by go_simp;rfl) (by go_simp) ?_
 refine kK (by rfl) (by go_simp;rfl) (by go_simp;rfl) (by go_simp) ?_
 refine kK (by rfl) (by go_simp;rfl) (by go_simp;rfl) (by go_simp) ?_
 refine kK (by rfl) (by go_simp;rfl) (by go_simp;rfl) (by go_simp) ?_
 refine kK (by rfl) (by go_simp;rfl) (by go_simp;rfl) (by go_simp) ?_
 exact wG (by rfl) (by go_simp;rfl) (by go_simp;rfl) (by go_simp)
end Go.Proofs.Ythipjoioicmcnaa.G
namespace Go.Proofs.Ythipjoioicmcnaa.G
open Go.RowKit Go.Proofs.YthipjoioicmcnaaW.PrintWords Go.Proofs.YthipjoioicmcnaaW.PrintLast Go.Proofs.YthipjoioicmcnaaW.PrintMore Go.Proofs.Ythipjoioicmcnaa.Sh
attribute [local go_sem] eS eR fI fJ eI eJ eU eT
attribute [local go_sem high] aCQ
def bX.j0:Nat→Int→Bool→Int→Int→Int→Int→Int→Int→Int→Int→Int→Int→Int→Int→Option (Bool)
 | 0,_,_,_,_,_,_,_,_,_,_,_,_,_,_=>none
 | k + 1,x4,x13,x102000,x102001,x102002,x102003,x102004,x102005,x103000,x103001,x103002,x103003,x103004,x103005=>if x13=true then (some (x102000 == x103000 && (x102001 == x103001 && (x102003 == x103003 && (x102004 == x103004 && (x102005 == x103005)))))) else (if x102000=17 then (some (x102000 == x103000 && (x102001 == x103001 && (x102004 == x103004 && (x102005 == x103005))))) else ((dC.f x102000 x102001 x102002 x102003 x102004 x102005).bind fun Af=>(if Af=true then (some (x102000 == x103000 && (x102001 == x103001 && (x102005 == x103005)))) else (if x4 > 0 then (if x4 > 1 then (if x4 > 2 then (some (x102000 == x103000 && (x102001 == x103001 && (x102002 == x103002)))) else (some (x102000 == x103000 && (x102001 == x103001 && (x102002 == x103002 && (x102005 == x103005)))))) else (if x4 > 2 then (some (x102000 == x103000 && (x102001 == x103001 && (x102002 == x103002 && (x102004 == x103004))))) else (some (x102000 == x103000 && (x102001 == x103001 && (x102002 == x103002 && (x102004 == x103004 && (x102005 == x103005)))))))) else (some (x102000 == x103000 && (x102001 == x103001 && (x102002 == x103002 && (x102003 == x103003 && (x102004 == x103004 && (x102005 == x103005)))))))))))
def bX.f (k:Nat) (A3:Int) (A4:Int) (A9:Int) (Ac:Int) (Ab:Int) (Aa:Int):Option (Bool):=(dB.f k A3 A4 A9 Ac Ab Aa).bind fun A8=>(if A3=0 then (bX.j0 k (A8.length:Int) true A3 A4 A9 Ac Ab Aa A3 A4 0 0 0 0) else (bX.j0 k (A8.length:Int) (A3 == 1) A3 A4 A9 Ac Ab Aa A3 A4 0 0 0 0))
def bX.T6:Bool × List (List Nat × List Nat):=(true,[([],[]),([0],[0]),([],[]),([2],[2]),([0,1],[]),([4,1,0,1],[1,4]),([0,1,2,3,4,5],[]),([6,3,5,0,1,2,3,4,5],[3,6])])
def bX.B6:List Nat:=[0,1,0,4,3,19,63,127]
theorem bX.tab6:hG .any (tU Try.f164 6)=bX.T6:=by kernel_rfl
theorem bX.bits6:iE bX.T6.2 bX.B6=true:=by kernel_rfl
def bX.T8:Bool × List (List Nat × List Nat):=(true,[([],[]),([0],[0]),([],[]),([2],[2]),([],[]),([4],[4]),([0,1],[]),([6,1,0,1],[1,6]),([0,1,2,3,6,7],[]),([8,3,7,0,1,2,3,6,7],[3,8]),([0,1,2,3,4,5,6,7,8,9],[]),([10,5,9,0,1,2,3,4,5,6,7,8,9],[5,10])])
def bX.B8:List Nat:=[0,1,0,4,0,16,3,67,207,463,1023,2047]
theorem bX.tab8:hG .any (tU Try.f164 8)=bX.T8:=by kernel_rfl
theorem bX.bits8:iE bX.T8.2 bX.B8=true:=by kernel_rfl
theorem bX.calls (k:Nat) (A3:Int) (A4:Int) (A9:Int) (Ac:Int) (Ab:Int) (Aa:Int) (r:Bool) (w:World) (h:bX.f k A3 A4 A9 Ac Ab Aa=some r) :
  Calls Try.prog 164 #[.agg #[.int .i64 A3,.int .i64 A4,.int .i64 A9,.int .i64 Ac,.int .i64 Ab,.int .i64 Aa]] w fun e w'=>e = .returned (.bool r)∧Below w.heap.size w w':=by
 have hu99:=Try.underlying99;have HB:=aA.mk (Below.refl w.heap.size w);have H:((dB.f k A3 A4 A9 Ac Ab Aa).bind fun A8=>(if A3=0 then (bX.j0 k (A8.length:Int) true A3 A4 A9 Ac Ab Aa A3 A4 0 0 0 0) else (bX.j0 k (A8.length:Int) (A3 == 1) A3 A4 A9 Ac Ab Aa A3 A4 0 0 0 0)))=some r:=h;clear h;replace H:=ob H;obtain ⟨A8,A20,H⟩:=H
 try dsimp only at H
 have A2:=aA.mk A20;clear A20;have HC3:=aA.mk H;clear H
 go_enter Try.func164,Try.ntmps164
 go_upto_region 3 with (first|((with_reducible refine bM (N:=1) rfl ?_);refine bx (N:=1) (cs:=#[.int .i64 A3,.int .i64 A4,.int .i64 A9,.int .i64 Ac,.int .i64 Ab,.int .i64 Aa]) (t:=99) ?_;intro Ad hg w4 hbox hb;have A1:=aA.mk (hbox);have GW101:=aA.mk ((by rw [hg];exact (aM (tb HB)):w.heap.size≤Ad));have GE101:=aA.mk ((by rw [hg];exact (aM (tb HB)):w.heap.size≤Ad));replace HB:=aA.mk (aE (tb HB) hb);clear hb hbox hg;have hcz5__:=eM A1;have hfz5__:=f_ A1)|((with_reducible refine bM (N:=3) rfl ?_);refine bx (N:=3) (cs:=#[.int .i64 0,.int .i64 0,.int .i64 0,.int .i64 0,.int .i64 0,.int .i64 0]) (t:=99) ?_;intro A6 hg w6 hbox hb;have A5:=aA.mk (hbox);have GW102:=aA.mk ((by rw [hg];exact (aM (tb HB)):w.heap.size≤A6));have GE102:=aA.mk ((by rw [hg];exact (aM (tb HB)):w.heap.size≤A6));replace HB:=aA.mk (aE (tb HB) hb);have A0:=aA.mk ((by rw [hg];exact Nat.ne_of_lt (gA (g:=Ad) (o := .cells #[.int .i64 A3,.int .i64 A4,.int .i64 A9,.int .i64 Ac,.int .i64 Ab,.int .i64 Aa] 99 (0,0)) (dr A1)):Ad≠A6));have A7:=aA.mk ((by rw [hg];exact Nat.ne_of_gt (gA (g:=Ad) (o := .cells #[.int .i64 A3,.int .i64 A4,.int .i64 A9,.int .i64 Ac,.int .i64 Ab,.int .i64 Aa] 99 (0,0)) (dr A1)):A6≠Ad));replace A1:=aA.mk (aQ (g:=Ad) (o := .cells #[.int .i64 A3,.int .i64 A4,.int .i64 A9,.int .i64 Ac,.int .i64 Ab,.int .i64 Aa] 99 (0,0)) (dr A1) hb);clear hb hbox hg;have hnb7:=A7.out;have hnc7:=A0.out;have hcz8__:=eM A5;have hfz8__:=f_ A5;have hcz9__:=eM A1;have hfz9__:=f_ A1)|((with_reducible refine aD (f:=125) rfl ?_);refine aT (some 11) rfl rfl Try.func125 (by kernel_rfl) rfl #[.agg #[.int .i64 A3,.int .i64 A4,.int .i64 A9,.int .i64 Ac,.int .i64 Ab,.int .i64 Aa]] rfl ml ?_;(with_reducible refine (dB.calls k A3 A4 A9 Ac Ab Aa A8 _ A2.out).mono ?_);rintro e w10 ⟨v104,rfl,ho0,hb⟩;refine ⟨_,rfl,?_⟩;have Ag:=aA.mk (Kd.R_lower ho0 (aM (tb HB)));replace A1:=aA.mk (aQ (g:=Ad) (o := .cells #[.int .i64 A3,.int .i64 A4,.int .i64 A9,.int .i64 Ac,.int .i64 Ab,.int .i64 Aa] 99 (0,0)) (by (with_reducible repeat (first|refine bH ?_ _|refine bE ?_|refine bK ?_ _));refine dR ?_ A0.out _;(with_reducible repeat (first|refine bH ?_ _|refine bE ?_|refine bK ?_ _));refine dR ?_ A0.out _;(with_reducible repeat (first|refine bH ?_ _|refine bE ?_|refine bK ?_ _));refine dR ?_ A0.out _;(with_reducible repeat (first|refine bH ?_ _|refine bE ?_|refine bK ?_ _));refine dR ?_ A0.out _;(with_reducible repeat (first|refine bH ?_ _|refine bE ?_|refine bK ?_ _));refine dR ?_ A0.out _;(with_reducible repeat (first|refine bH ?_ _|refine bE ?_|refine bK ?_ _));refine dR ?_ A0.out _;(with_reducible repeat (first|refine bH ?_ _|refine bE ?_|refine bK ?_ _));exact A1.out) hb);replace A5:=aA.mk (aQ (g:=A6) (o := .cells #[.int .i64 A3,.int .i64 A4,.int .i64 0,.int .i64 0,.int .i64 0,.int .i64 0] 99 (0,0)) (by (with_reducible repeat (first|refine bH ?_ _|refine bE ?_|refine bK ?_ _));refine bF (cs:=#[.int .i64 A3,.int .i64 A4,.int .i64 0,.int .i64 0,.int .i64 0,.int .i64 0]) ?_ 5 _ rfl;(with_reducible repeat (first|refine bH ?_ _|refine bE ?_|refine bK ?_ _));refine bF (cs:=#[.int .i64 A3,.int .i64 A4,.int .i64 0,.int .i64 0,.int .i64 0,.int .i64 0]) ?_ 4 _ rfl;(with_reducible repeat (first|refine bH ?_ _|refine bE ?_|refine bK ?_ _));refine bF (cs:=#[.int .i64 A3,.int .i64 A4,.int .i64 0,.int .i64 0,.int .i64 0,.int .i64 0]) ?_ 3 _ rfl;(with_reducible repeat (first|refine bH ?_ _|refine bE ?_|refine bK ?_ _));refine bF (cs:=#[.int .i64 A3,.int .i64 A4,.int .i64 0,.int .i64 0,.int .i64 0,.int .i64 0]) ?_ 2 _ rfl;(with_reducible repeat (first|refine bH ?_ _|refine bE ?_|refine bK ?_ _));refine bF (cs:=#[.int .i64 A3,.int .i64 0,.int .i64 0,.int .i64 0,.int .i64 0,.int .i64 0]) ?_ 1 _ rfl;(with_reducible repeat (first|refine bH ?_ _|refine bE ?_|refine bK ?_ _));refine bF (cs:=#[.int .i64 0,.int .i64 0,.int .i64 0,.int .i64 0,.int .i64 0,.int .i64 0]) ?_ 0 _ rfl;(with_reducible repeat (first|refine bH ?_ _|refine bE ?_|refine bK ?_ _));exact A5.out) hb);replace HB:=aA.mk (aE (tb HB) hb);(try clear hb);(try clear hb2);(try clear hk);(try clear hi);(try clear ho0);obtain ⟨Ao11,co11,eo11⟩:=Kd.R_slice Ag.out;subst eo11))
 (try simp only [Act.put,List.setIfInBounds_toArray,List.set_cons_zero,List.set_cons_succ])
 go_cut [13] (fun v13 wc=>∃ (kq:Nat) (Ae:Bool),v13 = .bool Ae∧aA (bX.j0 kq (A8.length:Int) Ae A3 A4 A9 Ac Ab Aa A3 A4 0 0 0 0=some r)∧aA (kq≤k)∧aA (wc.heap[Ad]? = some (.cells #[.int .i64 A3,.int .i64 A4,.int .i64 A9,.int .i64 Ac,.int .i64 Ab,.int .i64 Aa] 99 (0,0)))∧aA (wc.heap[A6]? = some (.cells #[.int .i64 A3,.int .i64 A4,.int .i64 0,.int .i64 0,.int .i64 0,.int .i64 0] 99 (0,0)))∧aA (Below w.heap.size w wc))
 case first =>
  have H:=HC3.out;clear HC3
  by_cases c12:A3=0
  ·rw [if_pos c12] at H;have c12b0:(A3 == 0)=true:=beq_iff_eq.mpr c12;have c12b1:(A3 != 0)=false:=bne_eq_false_iff_eq.mpr c12;clear c12;(first|rw [c12b0]|(simp only [aJ,aK];rw [c12b0])|skip);have H':=aA.mk H;clear H;have hnb13:=A0.out;have hnc13:=A7.out;have hcz14__:=eM A1;have hfz14__:=f_ A1;go_wp2;go_meet
   case rel=>exact ⟨_,(true),(by first|rfl|(simp;done)|(simp [*];done)),H',⟨by first|omega|exact Nat.le_refl _⟩,⟨dr A1⟩,⟨dr A5⟩,⟨by exact tb HB⟩⟩
  ·rw [if_neg c12] at H;have c12b0:(A3 == 0)=false:=beq_eq_false_iff_ne.mpr c12;have c12b1:(A3 != 0)=true:=bne_iff_ne.mpr c12;(first|rw [c12b0]|(simp only [aJ,aK];rw [c12b0])|skip);have H':=aA.mk H;clear H;have hnb15:=A0.out;have hnc15:=A7.out;have hcz16__:=eM A1;have hfz16__:=f_ A1;go_wp2;go_meet
   case rel=>exact ⟨_,((A3 == 1)),(by first|rfl|(simp;done)|(simp [*];done)),H',⟨by first|omega|exact Nat.le_refl _⟩,⟨dr A1⟩,⟨dr A5⟩,⟨by exact tb HB⟩⟩
 case rest =>
  clear HC3;obtain ⟨kq,Ae,rfl,HA,HJ2,A1,A5,HB⟩:=hcut
  cases kq with
  | zero=>exact absurd HA.out (by simp [bX.j0])
  | succ kj2 =>
   have H:=HA.out;clear HA;simp only [bX.j0] at H
   by_cases c17:Ae=true
   ·subst c17
    have H1:(some (A3 == A3 && (A4 == A4 && (Ac == 0 && (Ab == 0 && (Aa == 0))))))=some r:=by rw [if_pos rfl] at H;exact H
    clear H;have H:=H1;clear H1;obtain rfl:=os H;have hnb18:=A0.out;have hnc18:=A7.out;have hcz19__:=eM A1;have hfz19__:=f_ A1;have hcz20__:=eM A5;have hfz20__:=f_ A5;go_wp2;go_ret;exact ⟨er,tb HB⟩
   ·replace c17:=Bool.eq_false_iff.mpr c17;subst c17
    have H1:(if A3=17 then (some (A3 == A3 && (A4 == A4 && (Ab == 0 && (Aa == 0))))) else ((dC.f A3 A4 A9 Ac Ab Aa).bind fun Af=>(if Af=true then (some (A3 == A3 && (A4 == A4 && (Aa == 0)))) else (if (A8.length:Int) > 0 then (if (A8.length:Int) > 1 then (if (A8.length:Int) > 2 then (some (A3 == A3 && (A4 == A4 && (A9 == 0)))) else (some (A3 == A3 && (A4 == A4 && (A9 == 0 && (Aa == 0)))))) else (if (A8.length:Int) > 2 then (some (A3 == A3 && (A4 == A4 && (A9 == 0 && (Ab == 0))))) else (some (A3 == A3 && (A4 == A4 && (A9 == 0 && (Ab == 0 && (Aa == 0)))))))) else (some (A3 == A3 && (A4 == A4 && (A9 == 0 && (Ac == 0 && (Ab == 0 && (Aa == 0)))))))))))=some r:=by rw [if_neg (show ¬ (false=true) by decide)] at H;exact H
    clear H;have H:=H1;clear H1
    by_cases c21:A3=17
    ·rw [if_pos c21] at H;have c21b0:(A3 == 17)=true:=beq_iff_eq.mpr c21;have c21b1:(A3 != 17)=false:=bne_eq_false_iff_eq.mpr c21;clear c21;obtain rfl:=os H;have hnb22:=A0.out;have hnc22:=A7.out;have hcz23__:=eM A1;have hfz23__:=f_ A1
     try go_wp2
     have n0_:=aA.mk (bE A1.out);have n1_:=aA.mk (bE A5.out);have n2_:=aA.mk (bQ HB.out);clear A1;clear A5;clear HB;have A1:=n0_;have A5:=n1_;have HB:=n2_;clear n0_ n1_ n2_;refine eW (n:=8) (S:=fun w'=>w'.cell? ⟨Ad,0,none⟩=some (.int .i64 A3)∧w'.cell? ⟨Ad,1,none⟩=some (.int .i64 A4)∧w'.cell? ⟨Ad,2,none⟩=some (.int .i64 A9)∧w'.cell? ⟨Ad,3,none⟩=some (.int .i64 Ac)∧w'.cell? ⟨Ad,4,none⟩=some (.int .i64 Ab)∧w'.cell? ⟨Ad,5,none⟩=some (.int .i64 Aa)) (ds:=[]) (tf 0 8) (by kernel_rfl) rfl rfl ⟨(aG A1.out 0).trans rfl,(aG A1.out 1).trans rfl,(aG A1.out 2).trans rfl,(aG A1.out 3).trans rfl,(aG A1.out 4).trans rfl,(aG A1.out 5).trans rfl⟩ (fun hHeld=>?_);refine jS bX.tab6 bX.bits6 (fun HT_ HW_=>?_);generalize wc.drew=w24 at A1 A5 HB hHeld ⊢;refine kW HT_ 0 29 (tf 1 7) ?_;refine kW HT_ 2 31 #[true,false,true,false,false,false,false,false] ?_;refine xP HT_ HW_ 1 30 (tf 3 5) hHeld ?_;refine kW HT_ 4 33 #[true,true,true,false,true,false,false,false] ?_;refine xP HT_ HW_ 3 32 (tf 5 3) hHeld ?_;refine fZ (i:=5) (N:=none) (tf 6 2) rfl rfl (iO HT_.out (by kernel_rfl)) (by decide) (fun K hK=>?_);have hs25:w24.cell? ⟨A6,2,none⟩=some (.int .i64 0):=(aG A5.out 2).trans rfl;have hfs25:=aW A5.out 2;have hns25_0:=A0.out;have hms25_0:=A7.out;refine lM (w1:=?_) (by rfl) rfl ?_ ?_;rotate_left
     ·go_simp;rfl
     refine hK.out _ _ ⟨((cell_far (p:=⟨A6,_,none⟩) A0.out _).trans (hHeld.1)),((cell_far (p:=⟨A6,_,none⟩) A0.out _).trans (hHeld.2.1)),((cell_far (p:=⟨A6,_,none⟩) A0.out _).trans (hHeld.2.2.1)),((cell_far (p:=⟨A6,_,none⟩) A0.out _).trans (hHeld.2.2.2.1)),((cell_far (p:=⟨A6,_,none⟩) A0.out _).trans (hHeld.2.2.2.2.1)),((cell_far (p:=⟨A6,_,none⟩) A0.out _).trans (hHeld.2.2.2.2.2))⟩ (fun hHeld=>?_);clear hK K;refine kW HT_ 6 34 (tf 7 1) ?_;refine fZ (i:=7) (N:=none) (tf 8 0) rfl rfl (iO HT_.out (by kernel_rfl)) (by decide) (fun K hK=>?_);have hs26:w24.cell? ⟨A6,3,none⟩=some (.int .i64 0):=(aG A5.out 3).trans rfl;have hfs26:=aW A5.out 3;have hns26_0:=A0.out;have hms26_0:=A7.out;refine lM (w1:=?_) (by rfl) rfl ?_ ?_;rotate_left
     ·go_simp;rfl
     refine hK.out _ _ ⟨((cell_far (p:=⟨A6,_,none⟩) A0.out _).trans (hHeld.1)),((cell_far (p:=⟨A6,_,none⟩) A0.out _).trans (hHeld.2.1)),((cell_far (p:=⟨A6,_,none⟩) A0.out _).trans (hHeld.2.2.1)),((cell_far (p:=⟨A6,_,none⟩) A0.out _).trans (hHeld.2.2.2.1)),((cell_far (p:=⟨A6,_,none⟩) A0.out _).trans (hHeld.2.2.2.2.1)),((cell_far (p:=⟨A6,_,none⟩) A0.out _).trans (hHeld.2.2.2.2.2))⟩ (fun hHeld=>?_);clear hK K;refine gG (lJ HT_.out (by kernel_rfl)) ?_;have hcz27__:=eM A1;have hfz27__:=f_ A1;have hcz28__:=eM A5;have hfz28__:=f_ A5
     try go_wp2
     go_ret;exact ⟨er,tb HB⟩
    ·rw [if_neg c21] at H;have c21b0:(A3 == 17)=false:=beq_eq_false_iff_ne.mpr c21;have c21b1:(A3 != 17)=true:=bne_iff_ne.mpr c21;replace H:=ob H;obtain ⟨Af,A290,H⟩:=H
     try dsimp only at H
     have A29:=aA.mk A290;clear A290
     by_cases c30:Af=true
     ·subst c30
      have H1:(some (A3 == A3 && (A4 == A4 && (Aa == 0))))=some r:=by rw [if_pos rfl] at H;exact H
      clear H;have H:=H1;clear H1;obtain rfl:=os H;have hnb31:=A0.out;have hnc31:=A7.out;have hcz32__:=eM A1;have hfz32__:=f_ A1
      try go_wp2_with (first|((with_reducible refine aD (f:=123) rfl ?_);refine aT (some 37) rfl rfl Try.func123 (by kernel_rfl) rfl #[.agg #[.int .i64 A3,.int .i64 A4,.int .i64 A9,.int .i64 Ac,.int .i64 Ab,.int .i64 Aa]] rfl ml ?_;(with_reducible refine (dC.calls A3 A4 A9 Ac Ab Aa true _ A29.out).mono ?_);rintro e w33 ⟨rfl,hb⟩;refine ⟨_,rfl,?_⟩;replace A1:=aA.mk (aQ (g:=Ad) (o := .cells #[.int .i64 A3,.int .i64 A4,.int .i64 A9,.int .i64 Ac,.int .i64 Ab,.int .i64 Aa] 99 (0,0)) (dr A1) hb);replace A5:=aA.mk (aQ (g:=A6) (o := .cells #[.int .i64 A3,.int .i64 A4,.int .i64 0,.int .i64 0,.int .i64 0,.int .i64 0] 99 (0,0)) (dr A5) hb);replace HB:=aA.mk (aE (tb HB) hb);(try clear hb);(try clear hb2);(try clear hk);(try clear hi)))
      have n0_:=aA.mk (bE A1.out);have n1_:=aA.mk (bE A5.out);have n2_:=aA.mk (bQ HB.out);clear A1;clear A5;clear HB;have A1:=n0_;have A5:=n1_;have HB:=n2_;clear n0_ n1_ n2_;refine eW (n:=12) (S:=fun w'=>w'.cell? ⟨Ad,0,none⟩=some (.int .i64 A3)∧w'.cell? ⟨Ad,1,none⟩=some (.int .i64 A4)∧w'.cell? ⟨Ad,2,none⟩=some (.int .i64 A9)∧w'.cell? ⟨Ad,3,none⟩=some (.int .i64 Ac)∧w'.cell? ⟨Ad,4,none⟩=some (.int .i64 Ab)∧w'.cell? ⟨Ad,5,none⟩=some (.int .i64 Aa)) (ds:=[]) (tf 0 12) (by kernel_rfl) rfl rfl ⟨(aG A1.out 0).trans rfl,(aG A1.out 1).trans rfl,(aG A1.out 2).trans rfl,(aG A1.out 3).trans rfl,(aG A1.out 4).trans rfl,(aG A1.out 5).trans rfl⟩ (fun hHeld=>?_);refine jS bX.tab8 bX.bits8 (fun HT_ HW_=>?_);generalize w33.drew=w34 at A1 A5 HB hHeld ⊢;refine kW HT_ 0 38 (tf 1 11) ?_;refine kW HT_ 2 40 #[true,false,true,false,false,false,false,false,false,false,false,false] ?_;refine kW HT_ 4 42 #[true,false,true,false,true,false,false,false,false,false,false,false] ?_;refine xP HT_ HW_ 1 39 #[true,true,true,false,true,false,false,false,false,false,false,false] hHeld ?_;refine kW HT_ 6 44 #[true,true,true,false,true,false,true,false,false,false,false,false] ?_;refine xP HT_ HW_ 3 41 #[true,true,true,true,true,false,true,false,false,false,false,false] hHeld ?_;refine xP HT_ HW_ 5 43 (tf 7 5) hHeld ?_;refine fZ (i:=7) (N:=none) (tf 8 4) rfl rfl (iO HT_.out (by kernel_rfl)) (by decide) (fun K hK=>?_);have hs35:w34.cell? ⟨A6,2,none⟩=some (.int .i64 0):=(aG A5.out 2).trans rfl;have hfs35:=aW A5.out 2;have hns35_0:=A0.out;have hms35_0:=A7.out;refine lM (w1:=?_) (by rfl) rfl ?_ ?_;rotate_left
      ·go_simp;rfl
      refine hK.out _ _ ⟨((cell_far (p:=⟨A6,_,none⟩) A0.out _).trans (hHeld.1)),((cell_far (p:=⟨A6,_,none⟩) A0.out _).trans (hHeld.2.1)),((cell_far (p:=⟨A6,_,none⟩) A0.out _).trans (hHeld.2.2.1)),((cell_far (p:=⟨A6,_,none⟩) A0.out _).trans (hHeld.2.2.2.1)),((cell_far (p:=⟨A6,_,none⟩) A0.out _).trans (hHeld.2.2.2.2.1)),((cell_far (p:=⟨A6,_,none⟩) A0.out _).trans (hHeld.2.2.2.2.2))⟩ (fun hHeld=>?_);clear hK K;refine kW HT_ 8 45 (tf 9 3) ?_;refine fZ (i:=9) (N:=none) (tf 10 2) rfl rfl (iO HT_.out (by kernel_rfl)) (by decide) (fun K hK=>?_);have hs36:w34.cell? ⟨A6,3,none⟩=some (.int .i64 0):=(aG A5.out 3).trans rfl;have hfs36:=aW A5.out 3;have hns36_0:=A0.out;have hms36_0:=A7.out;refine lM (w1:=?_) (by rfl) rfl ?_ ?_;rotate_left
      ·go_simp;rfl
      refine hK.out _ _ ⟨((cell_far (p:=⟨A6,_,none⟩) A0.out _).trans (hHeld.1)),((cell_far (p:=⟨A6,_,none⟩) A0.out _).trans (hHeld.2.1)),((cell_far (p:=⟨A6,_,none⟩) A0.out _).trans (hHeld.2.2.1)),((cell_far (p:=⟨A6,_,none⟩) A0.out _).trans (hHeld.2.2.2.1)),((cell_far (p:=⟨A6,_,none⟩) A0.out _).trans (hHeld.2.2.2.2.1)),((cell_far (p:=⟨A6,_,none⟩) A0.out _).trans (hHeld.2.2.2.2.2))⟩ (fun hHeld=>?_);clear hK K;refine kW HT_ 10 46 (tf 11 1) ?_;refine fZ (i:=11) (N:=none) (tf 12 0) rfl rfl (iO HT_.out (by kernel_rfl)) (by decide) (fun K hK=>?_);have hs37:w34.cell? ⟨A6,4,none⟩=some (.int .i64 0):=(aG A5.out 4).trans rfl;have hfs37:=aW A5.out 4;have hns37_0:=A0.out;have hms37_0:=A7.out;refine lM (w1:=?_) (by rfl) rfl ?_ ?_;rotate_left
      ·go_simp;rfl
      refine hK.out _ _ ⟨((cell_far (p:=⟨A6,_,none⟩) A0.out _).trans (hHeld.1)),((cell_far (p:=⟨A6,_,none⟩) A0.out _).trans (hHeld.2.1)),((cell_far (p:=⟨A6,_,none⟩) A0.out _).trans (hHeld.2.2.1)),((cell_far (p:=⟨A6,_,none⟩) A0.out _).trans (hHeld.2.2.2.1)),((cell_far (p:=⟨A6,_,none⟩) A0.out _).trans (hHeld.2.2.2.2.1)),((cell_far (p:=⟨A6,_,none⟩) A0.out _).trans (hHeld.2.2.2.2.2))⟩ (fun hHeld=>?_);clear hK K;refine gG (lJ HT_.out (by kernel_rfl)) ?_;have hcz38__:=eM A1;have hfz38__:=f_ A1;have hcz39__:=eM A5;have hfz39__:=f_ A5
      try go_wp2
      go_ret;exact ⟨er,tb HB⟩
     ·replace c30:=Bool.eq_false_iff.mpr c30;subst c30
      have H1:(if (A8.length:Int) > 0 then (if (A8.length:Int) > 1 then (if (A8.length:Int) > 2 then (some (A3 == A3 && (A4 == A4 && (A9 == 0)))) else (some (A3 == A3 && (A4 == A4 && (A9 == 0 && (Aa == 0)))))) else (if (A8.length:Int) > 2 then (some (A3 == A3 && (A4 == A4 && (A9 == 0 && (Ab == 0))))) else (some (A3 == A3 && (A4 == A4 && (A9 == 0 && (Ab == 0 && (Aa == 0)))))))) else (some (A3 == A3 && (A4 == A4 && (A9 == 0 && (Ac == 0 && (Ab == 0 && (Aa == 0))))))))=some r:=by rw [if_neg (show ¬ (false=true) by decide)] at H;exact H
      clear H;have H:=H1;clear H1
      by_cases c40:(A8.length:Int) > 0
      ·rw [if_pos c40] at H;have c40b0:decide (0 < (A8.length:Int))=true:=decide_eq_true c40;have c40b1:decide (0 < A8.length)=true:=decide_eq_true (by omega);clear c40
       by_cases c41:(A8.length:Int) > 1
       ·rw [if_pos c41] at H;have c41b0:decide (1 < (A8.length:Int))=true:=decide_eq_true c41;have c41b1:decide (1 < A8.length)=true:=decide_eq_true (by omega);clear c41
        by_cases c42:(A8.length:Int) > 2
        ·rw [if_pos c42] at H;have c42b0:decide (2 < (A8.length:Int))=true:=decide_eq_true c42;have c42b1:decide (2 < A8.length)=true:=decide_eq_true (by omega);clear c42;obtain rfl:=os H;have hnb43:=A0.out;have hnc43:=A7.out;have hcz44__:=eM A1;have hfz44__:=f_ A1;go_wp2_with (first|((with_reducible refine aD (f:=123) rfl ?_);refine aT (some 37) rfl rfl Try.func123 (by kernel_rfl) rfl #[.agg #[.int .i64 A3,.int .i64 A4,.int .i64 A9,.int .i64 Ac,.int .i64 Ab,.int .i64 Aa]] rfl ml ?_;(with_reducible refine (dC.calls A3 A4 A9 Ac Ab Aa false _ A29.out).mono ?_);rintro e w45 ⟨rfl,hb⟩;refine ⟨_,rfl,?_⟩;replace A1:=aA.mk (aQ (g:=Ad) (o := .cells #[.int .i64 A3,.int .i64 A4,.int .i64 A9,.int .i64 Ac,.int .i64 Ab,.int .i64 Aa] 99 (0,0)) (dr A1) hb);replace A5:=aA.mk (aQ (g:=A6) (o := .cells #[.int .i64 A3,.int .i64 A4,.int .i64 0,.int .i64 0,.int .i64 0,.int .i64 0] 99 (0,0)) (dr A5) hb);replace HB:=aA.mk (aE (tb HB) hb);(try clear hb);(try clear hb2);(try clear hk);(try clear hi);have hcz46__:=eM A1;have hfz46__:=f_ A1;have hcz47__:=eM A5;have hfz47__:=f_ A5));go_ret;exact ⟨by first|exact er|(simp [dS,dT,show ¬ A8=[] from by intro h_;rw [h_] at c40b0;simp at c40b0];done)|(simp [*,show ¬ A8=[] from by intro h_;rw [h_] at c40b0;simp at c40b0];done)|(simp [dS,dT,show ¬ A8=[] from by intro h_;rw [h_] at c40b0;simp at c40b0] <;> rfl),tb HB⟩
        ·rw [if_neg c42] at H;have c42b0:decide (2 < (A8.length:Int))=false:=decide_eq_false c42;have c42b1:decide (2 < A8.length)=false:=decide_eq_false (by omega);clear c42;obtain rfl:=os H;have hnb48:=A0.out;have hnc48:=A7.out;have hcz49__:=eM A1;have hfz49__:=f_ A1;go_wp2_with (first|((with_reducible refine aD (f:=123) rfl ?_);refine aT (some 37) rfl rfl Try.func123 (by kernel_rfl) rfl #[.agg #[.int .i64 A3,.int .i64 A4,.int .i64 A9,.int .i64 Ac,.int .i64 Ab,.int .i64 Aa]] rfl ml ?_;(with_reducible refine (dC.calls A3 A4 A9 Ac Ab Aa false _ A29.out).mono ?_);rintro e w50 ⟨rfl,hb⟩;refine ⟨_,rfl,?_⟩;replace A1:=aA.mk (aQ (g:=Ad) (o := .cells #[.int .i64 A3,.int .i64 A4,.int .i64 A9,.int .i64 Ac,.int .i64 Ab,.int .i64 Aa] 99 (0,0)) (dr A1) hb);replace A5:=aA.mk (aQ (g:=A6) (o := .cells #[.int .i64 A3,.int .i64 A4,.int .i64 0,.int .i64 0,.int .i64 0,.int .i64 0] 99 (0,0)) (dr A5) hb);replace HB:=aA.mk (aE (tb HB) hb);(try clear hb);(try clear hb2);(try clear hk);(try clear hi);have hcz51__:=eM A1;have hfz51__:=f_ A1;have hcz52__:=eM A5;have hfz52__:=f_ A5));go_ret;exact ⟨by first|exact er|(simp [dS,dT,show ¬ A8=[] from by intro h_;rw [h_] at c40b0;simp at c40b0];done)|(simp [*,show ¬ A8=[] from by intro h_;rw [h_] at c40b0;simp at c40b0];done)|(simp [dS,dT,show ¬ A8=[] from by intro h_;rw [h_] at c40b0;simp at c40b0] <;> rfl),tb HB⟩
       ·rw [if_neg c41] at H;have c41b0:decide (1 < (A8.length:Int))=false:=decide_eq_false c41;have c41b1:decide (1 < A8.length)=false:=decide_eq_false (by omega);clear c41
        by_cases c53:(A8.length:Int) > 2
        ·rw [if_pos c53] at H;have c53b0:decide (2 < (A8.length:Int))=true:=decide_eq_true c53;have c53b1:decide (2 < A8.length)=true:=decide_eq_true (by omega);clear c53;obtain rfl:=os H;have hnb54:=A0.out;have hnc54:=A7.out;have hcz55__:=eM A1;have hfz55__:=f_ A1;go_wp2_with (first|((with_reducible refine aD (f:=123) rfl ?_);refine aT (some 37) rfl rfl Try.func123 (by kernel_rfl) rfl #[.agg #[.int .i64 A3,.int .i64 A4,.int .i64 A9,.int .i64 Ac,.int .i64 Ab,.int .i64 Aa]] rfl ml ?_;(with_reducible refine (dC.calls A3 A4 A9 Ac Ab Aa false _ A29.out).mono ?_);rintro e w56 ⟨rfl,hb⟩;refine ⟨_,rfl,?_⟩;replace A1:=aA.mk (aQ (g:=Ad) (o := .cells #[.int .i64 A3,.int .i64 A4,.int .i64 A9,.int .i64 Ac,.int .i64 Ab,.int .i64 Aa] 99 (0,0)) (dr A1) hb);replace A5:=aA.mk (aQ (g:=A6) (o := .cells #[.int .i64 A3,.int .i64 A4,.int .i64 0,.int .i64 0,.int .i64 0,.int .i64 0] 99 (0,0)) (dr A5) hb);replace HB:=aA.mk (aE (tb HB) hb);(try clear hb);(try clear hb2);(try clear hk);(try clear hi);have hcz57__:=eM A1;have hfz57__:=f_ A1;have hcz58__:=eM A5;have hfz58__:=f_ A5));go_ret;exact ⟨by first|exact er|(simp [dS,dT,show ¬ A8=[] from by intro h_;rw [h_] at c40b0;simp at c40b0];done)|(simp [*,show ¬ A8=[] from by intro h_;rw [h_] at c40b0;simp at c40b0];done)|(simp [dS,dT,show ¬ A8=[] from by intro h_;rw [h_] at c40b0;simp at c40b0] <;> rfl),tb HB⟩
        ·rw [if_neg c53] at H;have c53b0:decide (2 < (A8.length:Int))=false:=decide_eq_false c53;have c53b1:decide (2 < A8.length)=false:=decide_eq_false (by omega);clear c53;obtain rfl:=os H;have hnb59:=A0.out;have hnc59:=A7.out;have hcz60__:=eM A1;have hfz60__:=f_ A1;go_wp2_with (first|((with_reducible refine aD (f:=123) rfl ?_);refine aT (some 37) rfl rfl Try.func123 (by kernel_rfl) rfl #[.agg #[.int .i64 A3,.int .i64 A4,.int .i64 A9,.int .i64 Ac,.int .i64 Ab,.int .i64 Aa]] rfl ml ?_;(with_reducible refine (dC.calls A3 A4 A9 Ac Ab Aa false _ A29.out).mono ?_);rintro e w61 ⟨rfl,hb⟩;refine ⟨_,rfl,?_⟩;replace A1:=aA.mk (aQ (g:=Ad) (o := .cells #[.int .i64 A3,.int .i64 A4,.int .i64 A9,.int .i64 Ac,.int .i64 Ab,.int .i64 Aa] 99 (0,0)) (dr A1) hb);replace A5:=aA.mk (aQ (g:=A6) (o := .cells #[.int .i64 A3,.int .i64 A4,.int .i64 0,.int .i64 0,.int .i64 0,.int .i64 0] 99 (0,0)) (dr A5) hb);replace HB:=aA.mk (aE (tb HB) hb);(try clear hb);(try clear hb2);(try clear hk);(try clear hi);have hcz62__:=eM A1;have hfz62__:=f_ A1;have hcz63__:=eM A5;have hfz63__:=f_ A5));go_ret;exact ⟨by first|exact er|(simp [dS,dT,show ¬ A8=[] from by intro h_;rw [h_] at c40b0;simp at c40b0];done)|(simp [*,show ¬ A8=[] from by intro h_;rw [h_] at c40b0;simp at c40b0];done)|(simp [dS,dT,show ¬ A8=[] from by intro h_;rw [h_] at c40b0;simp at c40b0] <;> rfl),tb HB⟩
      ·rw [if_neg c40] at H;have c40b0:decide (0 < (A8.length:Int))=false:=decide_eq_false c40;have c40b1:decide (0 < A8.length)=false:=decide_eq_false (by omega);clear c40;obtain rfl:=os H;have hnb64:=A0.out;have hnc64:=A7.out;have hcz65__:=eM A1;have hfz65__:=f_ A1;go_wp2_with (first|((with_reducible refine aD (f:=123) rfl ?_);refine aT (some 37) rfl rfl Try.func123 (by kernel_rfl) rfl #[.agg #[.int .i64 A3,.int .i64 A4,.int .i64 A9,.int .i64 Ac,.int .i64 Ab,.int .i64 Aa]] rfl ml ?_;(with_reducible refine (dC.calls A3 A4 A9 Ac Ab Aa false _ A29.out).mono ?_);rintro e w66 ⟨rfl,hb⟩;refine ⟨_,rfl,?_⟩;replace A1:=aA.mk (aQ (g:=Ad) (o := .cells #[.int .i64 A3,.int .i64 A4,.int .i64 A9,.int .i64 Ac,.int .i64 Ab,.int .i64 Aa] 99 (0,0)) (dr A1) hb);replace A5:=aA.mk (aQ (g:=A6) (o := .cells #[.int .i64 A3,.int .i64 A4,.int .i64 0,.int .i64 0,.int .i64 0,.int .i64 0] 99 (0,0)) (dr A5) hb);replace HB:=aA.mk (aE (tb HB) hb);(try clear hb);(try clear hb2);(try clear hk);(try clear hi);have hcz67__:=eM A1;have hfz67__:=f_ A1;have hcz68__:=eM A5;have hfz68__:=f_ A5));go_ret;exact ⟨by first|exact er|(simp [dS,dT,show A8=[] from by simpa using c40b0];done)|(simp [*,show A8=[] from by simpa using c40b0];done)|(simp [dS,dT,show A8=[] from by simpa using c40b0] <;> rfl),tb HB⟩
end Go.Proofs.Ythipjoioicmcnaa.G
