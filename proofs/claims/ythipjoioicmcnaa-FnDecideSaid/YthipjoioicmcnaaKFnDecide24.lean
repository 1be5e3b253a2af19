-- texts of this session, merged by a program of it (wip/gen/pack.py)
import Derived.Test.YthipjoioicmcnaaKFnDecide1
import Derived.Test.YthipjoioicmcnaaKFnDecide12
import Derived.Test.YthipjoioicmcnaaKFnDecide15
import Derived.Test.YthipjoioicmcnaaKFnDecide19
import Derived.Test.YthipjoioicmcnaaKFnDecide2
import Derived.Test.YthipjoioicmcnaaKFnDecide3
set_option linter.unusedVariables false
set_option linter.unusedSimpArgs false
set_option maxHeartbeats 80000000
set_option maxRecDepth 100000
namespace Go.Proofs.Ythipjoioicmcnaa.G
open Go.RowKit Go.Proofs.YthipjoioicmcnaaW.PrintWords Go.Proofs.YthipjoioicmcnaaW.PrintLast Go.Proofs.YthipjoioicmcnaaW.PrintMore Go.Proofs.Ythipjoioicmcnaa.Sh
attribute [local go_sem] dP dR eA eB dB dC dQ dS
mutual
def bJ.j0:Nat→Int→Int→Int→Int→Bool→Int→Int→Int→Int→Int→Int→Option (Int)
 | 0,_,_,_,_,_,_,_,_,_,_,_=>none
 | k + 1,x1,x2,x3,x4,x34,x102000,x102001,x102002,x102003,x102004,x102005=>if x34=true then (some 0) else (if x102000=0 then (some x102002) else (if x102000=2 then ((iH.f x102001 x2).bind fun Ak=>(some Ak)) else ((cA.f x102000 3 12).bind fun Am=>(if Am=true then ((eF.f x102000 x102001 x2 x3).bind fun Ad=>(some Ad)) else (if x102000=13 then ((cZ.f (x2 == x3)).bind fun Ae=>(some Ae)) else (if x102000=14 then ((gR.f x1 x2 x3).bind fun Af=>(some Af)) else (if x102000=15 then ((eX.f x1 x2 x3).bind fun Ag=>(some Ag)) else (if x102000=16 then (bJ.j1 k x1 x2 x3 x4 (decide (x102001 < x1)) x102000 x102001 x102002 x102003 x102004 x102005) else (bJ.j1 k x1 x2 x3 x4 false x102000 x102001 x102002 x102003 x102004 x102005)))))))))
def bJ.j1:Nat→Int→Int→Int→Int→Bool→Int→Int→Int→Int→Int→Int→Option (Int)
 | 0,_,_,_,_,_,_,_,_,_,_,_=>none
 | k + 1,x1,x2,x3,x4,x84,x102000,x102001,x102002,x102003,x102004,x102005=>if x84=true then (some x3) else (if x102000=16 then (if 0≤(IntKind.u64.wrap (wrap64 (x102001 - x1))) then (some (wrap64 ((shl .i64 x2 (IntKind.u64.wrap (wrap64 (x102001 - x1)))) + x3))) else (none)) else (if x102000=17 then ((gI.f x1 x2 x102002 x102001).bind fun Al=>(some Al)) else (if x102000=18 then (bJ.j2 k x3 x4 (x2 == 1) x102000 x102001 x102002 x102003 x102004 x102005) else (bJ.j2 k x3 x4 false x102000 x102001 x102002 x102003 x102004 x102005))))
def bJ.j2:Nat→Int→Int→Bool→Int→Int→Int→Int→Int→Int→Option (Int)
 | 0,_,_,_,_,_,_,_,_,_=>none
 | k + 1,x3,x4,x119,x102000,x102001,x102002,x102003,x102004,x102005=>if x119=true then (some x3) else (if x102000=18 then (some x4) else (some 0))
end
def bJ.f (k:Nat) (A0:Int) (A2:Int) (A3:Int) (A4:Int) (A5:Int) (A6:Int) (a1:Int) (a2:Int) (a3:Int) (a4:Int):Option (Int):=(cS.f A2).bind fun An=>(if An=true then ((cS.f a1).bind fun Ai=>(if Ai=true then ((dL.f a2).bind fun Ab=>(if Ab=true then ((dL.f a3).bind fun Aa=>(if Aa=true then ((dL.f a4).bind fun A7=>(bJ.j0 k a1 a2 a3 a4 (!A7) A0 A2 A3 A4 A5 A6)) else (bJ.j0 k a1 a2 a3 a4 true A0 A2 A3 A4 A5 A6))) else (bJ.j0 k a1 a2 a3 a4 true A0 A2 A3 A4 A5 A6))) else (bJ.j0 k a1 a2 a3 a4 true A0 A2 A3 A4 A5 A6))) else (bJ.j0 k a1 a2 a3 a4 true A0 A2 A3 A4 A5 A6))
theorem bJ.calls (k:Nat) (A0:Int) (A2:Int) (A3:Int) (A4:Int) (A5:Int) (A6:Int) (a1:Int) (a2:Int) (a3:Int) (a4:Int) (r:Int) (w:World) (h:bJ.f k A0 A2 A3 A4 A5 A6 a1 a2 a3 a4=some r) :
  Calls Try.prog 126 #[.agg #[.int .i64 A0,.int .i64 A2,.int .i64 A3,.int .i64 A4,.int .i64 A5,.int .i64 A6],.int .i64 a1,.int .i64 a2,.int .i64 a3,.int .i64 a4] w fun e w'=>e = .returned (.int .i64 r)∧Below w.heap.size w w':=by
 have hu99:=Try.underlying99;have HB:=aA.mk (Below.refl w.heap.size w);have H:((cS.f A2).bind fun An=>(if An=true then ((cS.f a1).bind fun Ai=>(if Ai=true then ((dL.f a2).bind fun Ab=>(if Ab=true then ((dL.f a3).bind fun Aa=>(if Aa=true then ((dL.f a4).bind fun A7=>(bJ.j0 k a1 a2 a3 a4 (!A7) A0 A2 A3 A4 A5 A6)) else (bJ.j0 k a1 a2 a3 a4 true A0 A2 A3 A4 A5 A6))) else (bJ.j0 k a1 a2 a3 a4 true A0 A2 A3 A4 A5 A6))) else (bJ.j0 k a1 a2 a3 a4 true A0 A2 A3 A4 A5 A6))) else (bJ.j0 k a1 a2 a3 a4 true A0 A2 A3 A4 A5 A6)))=some r:=h;clear h;have HC6:=aA.mk H;clear H
 go_enter Try.func126,Try.ntmps126
 go_upto_region 1 with (first|((with_reducible refine bF (N:=5) rfl ?_);refine bx (N:=5) (cs:=#[.int .i64 A0,.int .i64 A2,.int .i64 A3,.int .i64 A4,.int .i64 A5,.int .i64 A6]) (t:=99) ?_;intro Ah hg w7 hbox hb;have A1:=aA.mk (hbox);have GW101:=aA.mk ((by rw [hg];exact (aG (tb HB)):w.heap.size≤Ah));have GE101:=aA.mk ((by rw [hg];exact (aG (tb HB)):w.heap.size≤Ah));replace HB:=aA.mk (aE (tb HB) hb);clear hb hbox hg))
 (try simp only [Act.put,List.setIfInBounds_toArray,List.set_cons_zero,List.set_cons_succ])
 go_cut [34] (fun v34 wc=>∃ (kq:Nat) (Aj:Bool),v34 = .bool Aj∧aA (bJ.j0 kq a1 a2 a3 a4 Aj A0 A2 A3 A4 A5 A6=some r)∧aA (kq≤k)∧aA (wc.heap[Ah]? = some (.cells #[.int .i64 A0,.int .i64 A2,.int .i64 A3,.int .i64 A4,.int .i64 A5,.int .i64 A6] 99 (0,0)))∧aA (Below w.heap.size w wc))
 case first =>
  have H:=HC6.out;clear HC6;replace H:=ob H;obtain ⟨An,A80,H⟩:=H
  try dsimp only at H
  have A8:=aA.mk A80;clear A80
  by_cases c9:An=true
  ·subst c9
   have H1:((cS.f a1).bind fun Ai=>(if Ai=true then ((dL.f a2).bind fun Ab=>(if Ab=true then ((dL.f a3).bind fun Aa=>(if Aa=true then ((dL.f a4).bind fun A7=>(bJ.j0 k a1 a2 a3 a4 (!A7) A0 A2 A3 A4 A5 A6)) else (bJ.j0 k a1 a2 a3 a4 true A0 A2 A3 A4 A5 A6))) else (bJ.j0 k a1 a2 a3 a4 true A0 A2 A3 A4 A5 A6))) else (bJ.j0 k a1 a2 a3 a4 true A0 A2 A3 A4 A5 A6)))=some r:=by rw [if_pos rfl] at H;exact H
   clear H;have H:=H1;clear H1;replace H:=ob H;obtain ⟨Ai,A100,H⟩:=H
   try dsimp only at H
   have A10:=aA.mk A100;clear A100
   by_cases c11:Ai=true
   ·subst c11
    have H1:((dL.f a2).bind fun Ab=>(if Ab=true then ((dL.f a3).bind fun Aa=>(if Aa=true then ((dL.f a4).bind fun A7=>(bJ.j0 k a1 a2 a3 a4 (!A7) A0 A2 A3 A4 A5 A6)) else (bJ.j0 k a1 a2 a3 a4 true A0 A2 A3 A4 A5 A6))) else (bJ.j0 k a1 a2 a3 a4 true A0 A2 A3 A4 A5 A6)))=some r:=by rw [if_pos rfl] at H;exact H
    clear H;have H:=H1;clear H1;replace H:=ob H;obtain ⟨Ab,A120,H⟩:=H
    try dsimp only at H
    have A12:=aA.mk A120;clear A120
    by_cases c13:Ab=true
    ·subst c13
     have H1:((dL.f a3).bind fun Aa=>(if Aa=true then ((dL.f a4).bind fun A7=>(bJ.j0 k a1 a2 a3 a4 (!A7) A0 A2 A3 A4 A5 A6)) else (bJ.j0 k a1 a2 a3 a4 true A0 A2 A3 A4 A5 A6)))=some r:=by rw [if_pos rfl] at H;exact H
     clear H;have H:=H1;clear H1;replace H:=ob H;obtain ⟨Aa,A140,H⟩:=H
     try dsimp only at H
     have A14:=aA.mk A140;clear A140
     by_cases c15:Aa=true
     ·subst c15
      have H1:((dL.f a4).bind fun A7=>(bJ.j0 k a1 a2 a3 a4 (!A7) A0 A2 A3 A4 A5 A6))=some r:=by rw [if_pos rfl] at H;exact H
      clear H;have H:=H1;clear H1;replace H:=ob H;obtain ⟨A7,A160,H⟩:=H;replace H:(bJ.j0 k a1 a2 a3 a4 (!A7) A0 A2 A3 A4 A5 A6)=some r:=H;have A16:=aA.mk A160;clear A160;have H':=aA.mk H;clear H;have hcz17__:=gB A1;have hfz17__:=f_ A1;go_wp2_with (first|((with_reducible refine aD (f:=119) rfl ?_);refine aI (some 13) rfl rfl Try.func119 (by kernel_rfl) rfl #[.int .i64 A2] rfl ml ?_;(with_reducible refine (cS.calls A2 true _ A8.out).mono ?_);rintro e w' ⟨rfl,⟨nd,rfl⟩⟩;refine ⟨_,rfl,?_⟩)|(go_at_call 119;(try simp only [aJ,aN]);(with_reducible refine (cS.calls a1 true _ A10.out).mono ?_);rintro e w' ⟨rfl,⟨nd,rfl⟩⟩)|(go_at_call 139;(try simp only [aJ,aN]);(with_reducible refine (dL.calls a2 true _ A12.out).mono ?_);rintro e w' ⟨rfl,⟨nd,rfl⟩⟩)|(go_at_call 139;(try simp only [aJ,aN]);(with_reducible refine (dL.calls a3 true _ A14.out).mono ?_);rintro e w' ⟨rfl,⟨nd,rfl⟩⟩)|(go_at_call 139;(try simp only [aJ,aN]);(with_reducible refine (dL.calls a4 A7 _ A16.out).mono ?_);rintro e w' ⟨rfl,⟨nd,rfl⟩⟩));go_meet
      case rel=>exact ⟨_,(!A7),(by first|rfl|(simp;done)|(simp [*];done)),H',⟨by first|omega|exact Nat.le_refl _⟩,⟨dr A1⟩,⟨by exact tb HB⟩⟩
     ·replace c15:=Bool.eq_false_iff.mpr c15;subst c15
      have H1:(bJ.j0 k a1 a2 a3 a4 true A0 A2 A3 A4 A5 A6)=some r:=by rw [if_neg (show ¬ (false=true) by decide)] at H;exact H
      clear H;have H:=H1;clear H1;have H':=aA.mk H;clear H;have hcz18__:=gB A1;have hfz18__:=f_ A1;go_wp2_with (first|((with_reducible refine aD (f:=119) rfl ?_);refine aI (some 13) rfl rfl Try.func119 (by kernel_rfl) rfl #[.int .i64 A2] rfl ml ?_;(with_reducible refine (cS.calls A2 true _ A8.out).mono ?_);rintro e w' ⟨rfl,⟨nd,rfl⟩⟩;refine ⟨_,rfl,?_⟩)|(go_at_call 119;(try simp only [aJ,aN]);(with_reducible refine (cS.calls a1 true _ A10.out).mono ?_);rintro e w' ⟨rfl,⟨nd,rfl⟩⟩)|(go_at_call 139;(try simp only [aJ,aN]);(with_reducible refine (dL.calls a2 true _ A12.out).mono ?_);rintro e w' ⟨rfl,⟨nd,rfl⟩⟩)|(go_at_call 139;(try simp only [aJ,aN]);(with_reducible refine (dL.calls a3 false _ A14.out).mono ?_);rintro e w' ⟨rfl,⟨nd,rfl⟩⟩));go_meet
      case rel=>exact ⟨_,(true),(by first|rfl|(simp;done)|(simp [*];done)),H',⟨by first|omega|exact Nat.le_refl _⟩,⟨dr A1⟩,⟨by exact tb HB⟩⟩
    ·replace c13:=Bool.eq_false_iff.mpr c13;subst c13
     have H1:(bJ.j0 k a1 a2 a3 a4 true A0 A2 A3 A4 A5 A6)=some r:=by rw [if_neg (show ¬ (false=true) by decide)] at H;exact H
     clear H;have H:=H1;clear H1;have H':=aA.mk H;clear H;have hcz19__:=gB A1;have hfz19__:=f_ A1;go_wp2_with (first|((with_reducible refine aD (f:=119) rfl ?_);refine aI (some 13) rfl rfl Try.func119 (by kernel_rfl) rfl #[.int .i64 A2] rfl ml ?_;(with_reducible refine (cS.calls A2 true _ A8.out).mono ?_);rintro e w' ⟨rfl,⟨nd,rfl⟩⟩;refine ⟨_,rfl,?_⟩)|(go_at_call 119;(try simp only [aJ,aN]);(with_reducible refine (cS.calls a1 true _ A10.out).mono ?_);rintro e w' ⟨rfl,⟨nd,rfl⟩⟩)|(go_at_call 139;(try simp only [aJ,aN]);(with_reducible refine (dL.calls a2 false _ A12.out).mono ?_);rintro e w' ⟨rfl,⟨nd,rfl⟩⟩));go_meet
     case rel=>exact ⟨_,(true),(by first|rfl|(simp;done)|(simp [*];done)),H',⟨by first|omega|exact Nat.le_refl _⟩,⟨dr A1⟩,⟨by exact tb HB⟩⟩
   ·replace c11:=Bool.eq_false_iff.mpr c11;subst c11
    have H1:(bJ.j0 k a1 a2 a3 a4 true A0 A2 A3 A4 A5 A6)=some r:=by rw [if_neg (show ¬ (false=true) by decide)] at H;exact H
    clear H;have H:=H1;clear H1;have H':=aA.mk H;clear H;have hcz20__:=gB A1;have hfz20__:=f_ A1;go_wp2_with (first|((with_reducible refine aD (f:=119) rfl ?_);refine aI (some 13) rfl rfl Try.func119 (by kernel_rfl) rfl #[.int .i64 A2] rfl ml ?_;(with_reducible refine (cS.calls A2 true _ A8.out).mono ?_);rintro e w' ⟨rfl,⟨nd,rfl⟩⟩;refine ⟨_,rfl,?_⟩)|(go_at_call 119;(try simp only [aJ,aN]);(with_reducible refine (cS.calls a1 false _ A10.out).mono ?_);rintro e w' ⟨rfl,⟨nd,rfl⟩⟩));go_meet
    case rel=>exact ⟨_,(true),(by first|rfl|(simp;done)|(simp [*];done)),H',⟨by first|omega|exact Nat.le_refl _⟩,⟨dr A1⟩,⟨by exact tb HB⟩⟩
  ·replace c9:=Bool.eq_false_iff.mpr c9;subst c9
   have H1:(bJ.j0 k a1 a2 a3 a4 true A0 A2 A3 A4 A5 A6)=some r:=by rw [if_neg (show ¬ (false=true) by decide)] at H;exact H
   clear H;have H:=H1;clear H1;have H':=aA.mk H;clear H;have hcz21__:=gB A1;have hfz21__:=f_ A1;go_wp2_with (first|((with_reducible refine aD (f:=119) rfl ?_);refine aI (some 13) rfl rfl Try.func119 (by kernel_rfl) rfl #[.int .i64 A2] rfl ml ?_;(with_reducible refine (cS.calls A2 false _ A8.out).mono ?_);rintro e w' ⟨rfl,⟨nd,rfl⟩⟩;refine ⟨_,rfl,?_⟩));go_meet
   case rel=>exact ⟨_,(true),(by first|rfl|(simp;done)|(simp [*];done)),H',⟨by first|omega|exact Nat.le_refl _⟩,⟨dr A1⟩,⟨by exact tb HB⟩⟩
 case rest =>
  clear HC6;obtain ⟨kq,Aj,rfl,HA,HJ5,A1,HB⟩:=hcut
  cases kq with
  | zero=>exact absurd HA.out (by simp [bJ.j0])
  | succ kj5 =>
   have H:=HA.out;clear HA;simp only [bJ.j0] at H
   by_cases c22:Aj=true
   ·subst c22
    have H1:(some 0)=some r:=by rw [if_pos rfl] at H;exact H
    clear H;have H:=H1;clear H1;obtain rfl:=os H;go_wp2;go_ret;exact ⟨er,tb HB⟩
   ·replace c22:=Bool.eq_false_iff.mpr c22;subst c22
    have H1:(if A0=0 then (some A3) else (if A0=2 then ((iH.f A2 a2).bind fun Ak=>(some Ak)) else ((cA.f A0 3 12).bind fun Am=>(if Am=true then ((eF.f A0 A2 a2 a3).bind fun Ad=>(some Ad)) else (if A0=13 then ((cZ.f (a2 == a3)).bind fun Ae=>(some Ae)) else (if A0=14 then ((gR.f a1 a2 a3).bind fun Af=>(some Af)) else (if A0=15 then ((eX.f a1 a2 a3).bind fun Ag=>(some Ag)) else (if A0=16 then (bJ.j1 kj5 a1 a2 a3 a4 (decide (A2 < a1)) A0 A2 A3 A4 A5 A6) else (bJ.j1 kj5 a1 a2 a3 a4 false A0 A2 A3 A4 A5 A6)))))))))=some r:=by rw [if_neg (show ¬ (false=true) by decide)] at H;exact H
    clear H;have H:=H1;clear H1
    by_cases c23:A0=0
    ·rw [if_pos c23] at H;have c23b0:(A0 == 0)=true:=beq_iff_eq.mpr c23;have c23b1:(A0 != 0)=false:=bne_eq_false_iff_eq.mpr c23;clear c23;obtain rfl:=os H;have hcz24__:=gB A1;have hfz24__:=f_ A1;go_wp2;go_ret;exact ⟨er,tb HB⟩
    ·rw [if_neg c23] at H;have c23b0:(A0 == 0)=false:=beq_eq_false_iff_ne.mpr c23;have c23b1:(A0 != 0)=true:=bne_iff_ne.mpr c23
     by_cases c25:A0=2
     ·rw [if_pos c25] at H;have c25b0:(A0 == 2)=true:=beq_iff_eq.mpr c25;have c25b1:(A0 != 2)=false:=bne_eq_false_iff_eq.mpr c25;clear c25;replace H:=ob H;obtain ⟨Ak,A260,H⟩:=H;replace H:(some Ak)=some r:=H;have A26:=aA.mk A260;clear A260;obtain rfl:=os H;have hcz27__:=gB A1;have hfz27__:=f_ A1;go_wp2_with (first|((with_reducible refine aD (f:=140) rfl ?_);refine aI (some 48) rfl rfl Try.func140 (by kernel_rfl) rfl #[.int .i64 A2,.int .i64 a2] rfl ml ?_;(with_reducible refine (iH.calls A2 a2 Ak _ A26.out).mono ?_);rintro e w' ⟨rfl,⟨nd,rfl⟩⟩;refine ⟨_,rfl,?_⟩));go_ret;exact ⟨er,tb HB⟩
     ·rw [if_neg c25] at H;have c25b0:(A0 == 2)=false:=beq_eq_false_iff_ne.mpr c25;have c25b1:(A0 != 2)=true:=bne_iff_ne.mpr c25;replace H:=ob H;obtain ⟨Am,A280,H⟩:=H
      try dsimp only at H
      have A28:=aA.mk A280;clear A280
      by_cases c29:Am=true
      ·subst c29
       have H1:((eF.f A0 A2 a2 a3).bind fun Ad=>(some Ad))=some r:=by rw [if_pos rfl] at H;exact H
       clear H;have H:=H1;clear H1;replace H:=ob H;obtain ⟨Ad,A300,H⟩:=H;replace H:(some Ad)=some r:=H;have A30:=aA.mk A300;clear A300;obtain rfl:=os H;have hcz31__:=gB A1;have hfz31__:=f_ A1;go_wp2_with (first|((with_reducible refine aD (f:=61) rfl ?_);refine aI (some 52) rfl rfl Try.func61 (by kernel_rfl) rfl #[.int .i64 A0,.int .i64 3,.int .i64 12] rfl ml ?_;(with_reducible refine (cA.calls A0 3 12 true _ A28.out).mono ?_);rintro e w' ⟨rfl,⟨nd,rfl⟩⟩;refine ⟨_,rfl,?_⟩)|((with_reducible refine aD (f:=141) rfl ?_);refine aI (some 59) rfl rfl Try.func141 (by kernel_rfl) rfl #[.int .i64 A0,.int .i64 A2,.int .i64 a2,.int .i64 a3] rfl ml ?_;(with_reducible refine (eF.calls A0 A2 a2 a3 Ad _ A30.out).mono ?_);rintro e w' ⟨rfl,⟨nd,rfl⟩⟩;refine ⟨_,rfl,?_⟩));go_ret;exact ⟨er,tb HB⟩
      ·replace c29:=Bool.eq_false_iff.mpr c29;subst c29
       have H1:(if A0=13 then ((cZ.f (a2 == a3)).bind fun Ae=>(some Ae)) else (if A0=14 then ((gR.f a1 a2 a3).bind fun Af=>(some Af)) else (if A0=15 then ((eX.f a1 a2 a3).bind fun Ag=>(some Ag)) else (if A0=16 then (bJ.j1 kj5 a1 a2 a3 a4 (decide (A2 < a1)) A0 A2 A3 A4 A5 A6) else (bJ.j1 kj5 a1 a2 a3 a4 false A0 A2 A3 A4 A5 A6)))))=some r:=by rw [if_neg (show ¬ (false=true) by decide)] at H;exact H
       clear H;have H:=H1;clear H1
       by_cases c32:A0=13
       ·rw [if_pos c32] at H;have c32b0:(A0 == 13)=true:=beq_iff_eq.mpr c32;have c32b1:(A0 != 13)=false:=bne_eq_false_iff_eq.mpr c32;clear c32;replace H:=ob H;obtain ⟨Ae,A330,H⟩:=H;replace H:(some Ae)=some r:=H;have A33:=aA.mk A330;clear A330;obtain rfl:=os H;have hcz34__:=gB A1;have hfz34__:=f_ A1;go_wp2_with (first|((with_reducible refine aD (f:=61) rfl ?_);refine aI (some 52) rfl rfl Try.func61 (by kernel_rfl) rfl #[.int .i64 A0,.int .i64 3,.int .i64 12] rfl ml ?_;(with_reducible refine (cA.calls A0 3 12 false _ A28.out).mono ?_);rintro e w' ⟨rfl,⟨nd,rfl⟩⟩;refine ⟨_,rfl,?_⟩)|((with_reducible refine aD (f:=111) rfl ?_);refine aI (some 67) rfl rfl Try.func111 (by kernel_rfl) rfl #[.bool (a2 == a3)] rfl ml ?_;(with_reducible refine (cZ.calls (a2 == a3) Ae _ A33.out).mono ?_);rintro e w' ⟨rfl,⟨nd,rfl⟩⟩;refine ⟨_,rfl,?_⟩));go_ret;exact ⟨er,tb HB⟩
       ·rw [if_neg c32] at H;have c32b0:(A0 == 13)=false:=beq_eq_false_iff_ne.mpr c32;have c32b1:(A0 != 13)=true:=bne_iff_ne.mpr c32
        by_cases c35:A0=14
        ·rw [if_pos c35] at H;have c35b0:(A0 == 14)=true:=beq_iff_eq.mpr c35;have c35b1:(A0 != 14)=false:=bne_eq_false_iff_eq.mpr c35;clear c35;replace H:=ob H;obtain ⟨Af,A360,H⟩:=H;replace H:(some Af)=some r:=H;have A36:=aA.mk A360;clear A360;obtain rfl:=os H;have hcz37__:=gB A1;have hfz37__:=f_ A1;go_wp2_with (first|((with_reducible refine aD (f:=61) rfl ?_);refine aI (some 52) rfl rfl Try.func61 (by kernel_rfl) rfl #[.int .i64 A0,.int .i64 3,.int .i64 12] rfl ml ?_;(with_reducible refine (cA.calls A0 3 12 false _ A28.out).mono ?_);rintro e w' ⟨rfl,⟨nd,rfl⟩⟩;refine ⟨_,rfl,?_⟩)|((with_reducible refine aD (f:=142) rfl ?_);refine aI (some 75) rfl rfl Try.func142 (by kernel_rfl) rfl #[.int .i64 a1,.int .i64 a2,.int .i64 a3] rfl ml ?_;(with_reducible refine (gR.calls a1 a2 a3 Af _ A36.out).mono ?_);rintro e w' ⟨rfl,⟨nd,rfl⟩⟩;refine ⟨_,rfl,?_⟩));go_ret;exact ⟨er,tb HB⟩
        ·rw [if_neg c35] at H;have c35b0:(A0 == 14)=false:=beq_eq_false_iff_ne.mpr c35;have c35b1:(A0 != 14)=true:=bne_iff_ne.mpr c35
         by_cases c38:A0=15
         ·rw [if_pos c38] at H;have c38b0:(A0 == 15)=true:=beq_iff_eq.mpr c38;have c38b1:(A0 != 15)=false:=bne_eq_false_iff_eq.mpr c38;clear c38;replace H:=ob H;obtain ⟨Ag,A390,H⟩:=H;replace H:(some Ag)=some r:=H;have A39:=aA.mk A390;clear A390;obtain rfl:=os H;have hcz40__:=gB A1;have hfz40__:=f_ A1;go_wp2_with (first|((with_reducible refine aD (f:=61) rfl ?_);refine aI (some 52) rfl rfl Try.func61 (by kernel_rfl) rfl #[.int .i64 A0,.int .i64 3,.int .i64 12] rfl ml ?_;(with_reducible refine (cA.calls A0 3 12 false _ A28.out).mono ?_);rintro e w' ⟨rfl,⟨nd,rfl⟩⟩;refine ⟨_,rfl,?_⟩)|((with_reducible refine aD (f:=143) rfl ?_);refine aI (some 83) rfl rfl Try.func143 (by kernel_rfl) rfl #[.int .i64 a1,.int .i64 a2,.int .i64 a3] rfl ml ?_;(with_reducible refine (eX.calls a1 a2 a3 Ag _ A39.out).mono ?_);rintro e w' ⟨rfl,⟨nd,rfl⟩⟩;refine ⟨_,rfl,?_⟩));go_ret;exact ⟨er,tb HB⟩
         ·rw [if_neg c38] at H;have c38b0:(A0 == 15)=false:=beq_eq_false_iff_ne.mpr c38;have c38b1:(A0 != 15)=true:=bne_iff_ne.mpr c38;have HC41:=aA.mk H;clear H;have hcz42__:=gB A1;have hfz42__:=f_ A1
          go_upto_region 15 with (first|((with_reducible refine aD (f:=61) rfl ?_);refine aI (some 52) rfl rfl Try.func61 (by kernel_rfl) rfl #[.int .i64 A0,.int .i64 3,.int .i64 12] rfl ml ?_;(with_reducible refine (cA.calls A0 3 12 false _ A28.out).mono ?_);rintro e w' ⟨rfl,⟨nd,rfl⟩⟩;refine ⟨_,rfl,?_⟩))
          (try simp only [Act.put,List.setIfInBounds_toArray,List.set_cons_zero,List.set_cons_succ])
          go_cut [84] (fun v84 wc=>∃ (kq:Nat) (Ac:Bool),v84 = .bool Ac∧aA (bJ.j1 kq a1 a2 a3 a4 Ac A0 A2 A3 A4 A5 A6=some r)∧aA (kq≤kj5)∧aA (wc.heap[Ah]? = some (.cells #[.int .i64 A0,.int .i64 A2,.int .i64 A3,.int .i64 A4,.int .i64 A5,.int .i64 A6] 99 (0,0)))∧aA (Below w.heap.size w wc))
          case first =>
           have H:=HC41.out;clear HC41
           by_cases c43:A0=16
           ·rw [if_pos c43] at H;have c43b0:(A0 == 16)=true:=beq_iff_eq.mpr c43;have c43b1:(A0 != 16)=false:=bne_eq_false_iff_eq.mpr c43;clear c43;(first|rw [c43b0]|(simp only [aJ,aN];rw [c43b0])|skip);have H':=aA.mk H;clear H;have hcz44__:=gB A1;have hfz44__:=f_ A1;go_wp2;go_meet
            case rel=>exact ⟨_,(decide (A2 < a1)),(by first|rfl|(simp;done)|(simp [*];done)),H',⟨by have:=HJ5.out;first|omega|exact Nat.le_refl _⟩,⟨dr A1⟩,⟨by exact tb HB⟩⟩
           ·rw [if_neg c43] at H;have c43b0:(A0 == 16)=false:=beq_eq_false_iff_ne.mpr c43;have c43b1:(A0 != 16)=true:=bne_iff_ne.mpr c43;(first|rw [c43b0]|(simp only [aJ,aN];rw [c43b0])|skip);have H':=aA.mk H;clear H;have hcz45__:=gB A1;have hfz45__:=f_ A1;go_wp2;go_meet
            case rel=>exact ⟨_,(false),(by first|rfl|(simp;done)|(simp [*];done)),H',⟨by have:=HJ5.out;first|omega|exact Nat.le_refl _⟩,⟨dr A1⟩,⟨by exact tb HB⟩⟩
          case rest =>
           clear HC41;obtain ⟨kq,Ac,rfl,HA,HJ40,A1,HB⟩:=hcut
           cases kq with
           | zero=>exact absurd HA.out (by simp [bJ.j1])
           | succ kj40 =>
            have H:=HA.out;clear HA;simp only [bJ.j1] at H
            by_cases c46:Ac=true
            ·subst c46
             have H1:(some a3)=some r:=by rw [if_pos rfl] at H;exact H
             clear H;have H:=H1;clear H1;obtain rfl:=os H;go_wp2;go_ret;exact ⟨er,tb HB⟩
            ·replace c46:=Bool.eq_false_iff.mpr c46;subst c46
             have H1:(if A0=16 then (if 0≤(IntKind.u64.wrap (wrap64 (A2 - a1))) then (some (wrap64 ((shl .i64 a2 (IntKind.u64.wrap (wrap64 (A2 - a1)))) + a3))) else (none)) else (if A0=17 then ((gI.f a1 a2 A3 A2).bind fun Al=>(some Al)) else (if A0=18 then (bJ.j2 kj40 a3 a4 (a2 == 1) A0 A2 A3 A4 A5 A6) else (bJ.j2 kj40 a3 a4 false A0 A2 A3 A4 A5 A6))))=some r:=by rw [if_neg (show ¬ (false=true) by decide)] at H;exact H
             clear H;have H:=H1;clear H1
             by_cases c47:A0=16
             ·rw [if_pos c47] at H;have c47b0:(A0 == 16)=true:=beq_iff_eq.mpr c47;have c47b1:(A0 != 16)=false:=bne_eq_false_iff_eq.mpr c47;clear c47;obtain ⟨ji48,hji48⟩:∃ j_:Int,(IntKind.u64.wrap (wrap64 (A2 - a1)))=j_:=⟨_,rfl⟩
              replace H:(if 0≤(ji48) then (some (wrap64 ((shl .i64 a2 (ji48)) + a3))) else (none))=some r:=by first|(rw [hji48] at H;exact H)|(simp only [hji48] at H ⊢;exact H)
              by_cases c49:0≤(ji48)
              ·rw [if_pos c49] at H;have c49b0:=eq_true c49;have c49b1:decide (0≤(ji48))=true:=decide_eq_true c49;clear c49;obtain ⟨ji50,hji50⟩:∃ j_:Int,(shl .i64 a2 (ji48))=j_:=⟨_,rfl⟩
               replace H:(some (wrap64 ((ji50) + a3)))=some r:=by first|(rw [hji50] at H;exact H)|(simp only [hji50] at H ⊢;exact H)
               have hji50_:(IntKind.i64.wrap (a2 * 2 ^ min (ji48).toNat 64))=ji50:=hji50;have hji50z:(ji48)≤64→(IntKind.i64.wrap (a2 * 2 ^ (ji48).toNat))=ji50:=gU hji50;have hji50y:(wrap64 (a2 * 2 ^ min (ji48).toNat 64))=ji50:=(aJ _).symm.trans hji50_
               have hji50x:(ji48)≤64→(wrap64 (a2 * 2 ^ (ji48).toNat))=ji50:=fun h_=>(aJ _).symm.trans (hji50z h_)
               obtain rfl:=os H;have hcz51__:=gB A1;have hfz51__:=f_ A1;go_wp2;go_ret;exact ⟨by first|rfl|(simp [dM,dN] <;> rfl)|(simp only [← hji48,← hji50];first|rfl|(simp [dM,dN] <;> rfl))|(simp [*,dM,dN] <;> rfl),tb HB⟩
              ·rw [if_neg c49] at H;exact absurd H (by simp)
             ·rw [if_neg c47] at H;have c47b0:(A0 == 16)=false:=beq_eq_false_iff_ne.mpr c47;have c47b1:(A0 != 16)=true:=bne_iff_ne.mpr c47
              by_cases c52:A0=17
              ·rw [if_pos c52] at H;have c52b0:(A0 == 17)=true:=beq_iff_eq.mpr c52;have c52b1:(A0 != 17)=false:=bne_eq_false_iff_eq.mpr c52;clear c52;replace H:=ob H;obtain ⟨Al,A530,H⟩:=H;replace H:(some Al)=some r:=H;have A53:=aA.mk A530;clear A530;obtain rfl:=os H;have hcz54__:=gB A1;have hfz54__:=f_ A1;go_wp2_with (first|((with_reducible refine aD (f:=144) rfl ?_);refine aI (some 118) rfl rfl Try.func144 (by kernel_rfl) rfl #[.int .i64 a1,.int .i64 a2,.int .i64 A3,.int .i64 A2] rfl ml ?_;(with_reducible refine (gI.calls a1 a2 A3 A2 Al _ A53.out).mono ?_);rintro e w' ⟨rfl,⟨nd,rfl⟩⟩;refine ⟨_,rfl,?_⟩));go_ret;exact ⟨er,tb HB⟩
              ·rw [if_neg c52] at H;have c52b0:(A0 == 17)=false:=beq_eq_false_iff_ne.mpr c52;have c52b1:(A0 != 17)=true:=bne_iff_ne.mpr c52;have HC55:=aA.mk H;clear H;have hcz56__:=gB A1;have hfz56__:=f_ A1
               go_upto_region 21 with (fail)
               go_cut [119] (fun v119 wc=>∃ (kq:Nat) (A9:Bool),v119 = .bool A9∧aA (bJ.j2 kq a3 a4 A9 A0 A2 A3 A4 A5 A6=some r)∧aA (kq≤kj40)∧aA (wc.heap[Ah]? = some (.cells #[.int .i64 A0,.int .i64 A2,.int .i64 A3,.int .i64 A4,.int .i64 A5,.int .i64 A6] 99 (0,0)))∧aA (Below w.heap.size w wc))
               case first =>
                have H:=HC55.out;clear HC55
                by_cases c57:A0=18
                ·rw [if_pos c57] at H;have c57b0:(A0 == 18)=true:=beq_iff_eq.mpr c57;have c57b1:(A0 != 18)=false:=bne_eq_false_iff_eq.mpr c57;clear c57;(first|rw [c57b0]|(simp only [aJ,aN];rw [c57b0])|skip);have H':=aA.mk H;clear H;have hcz58__:=gB A1;have hfz58__:=f_ A1;go_wp2;go_meet
                 case rel=>exact ⟨_,((a2 == 1)),(by first|rfl|(simp;done)|(simp [*];done)),(by first|exact H'|(rw [hji50];exact H')),⟨by have:=HJ5.out;have:=HJ40.out;first|omega|exact Nat.le_refl _⟩,⟨dr A1⟩,⟨by exact tb HB⟩⟩
                ·rw [if_neg c57] at H;have c57b0:(A0 == 18)=false:=beq_eq_false_iff_ne.mpr c57;have c57b1:(A0 != 18)=true:=bne_iff_ne.mpr c57;(first|rw [c57b0]|(simp only [aJ,aN];rw [c57b0])|skip);have H':=aA.mk H;clear H;have hcz59__:=gB A1;have hfz59__:=f_ A1;go_wp2;go_meet
                 case rel=>exact ⟨_,(false),(by first|rfl|(simp;done)|(simp [*];done)),(by first|exact H'|(rw [hji50];exact H')),⟨by have:=HJ5.out;have:=HJ40.out;first|omega|exact Nat.le_refl _⟩,⟨dr A1⟩,⟨by exact tb HB⟩⟩
               case rest =>
                clear HC55;obtain ⟨kq,A9,rfl,HA,HJ54,A1,HB⟩:=hcut
                cases kq with
                | zero=>exact absurd HA.out (by simp [bJ.j2])
                | succ kj54 =>
                 have H:=HA.out;clear HA;simp only [bJ.j2] at H
                 by_cases c60:A9=true
                 ·subst c60
                  have H1:(some a3)=some r:=by rw [if_pos rfl] at H;exact H
                  clear H;have H:=H1;clear H1;obtain rfl:=os H;go_wp2;go_ret;exact ⟨er,tb HB⟩
                 ·replace c60:=Bool.eq_false_iff.mpr c60;subst c60
                  have H1:(if A0=18 then (some a4) else (some 0))=some r:=by rw [if_neg (show ¬ (false=true) by decide)] at H;exact H
                  clear H;have H:=H1;clear H1
                  by_cases c61:A0=18
                  ·rw [if_pos c61] at H;have c61b0:(A0 == 18)=true:=beq_iff_eq.mpr c61;have c61b1:(A0 != 18)=false:=bne_eq_false_iff_eq.mpr c61;clear c61;obtain rfl:=os H;have hcz62__:=gB A1;have hfz62__:=f_ A1;go_wp2;go_ret;exact ⟨er,tb HB⟩
                  ·rw [if_neg c61] at H;have c61b0:(A0 == 18)=false:=beq_eq_false_iff_ne.mpr c61;have c61b1:(A0 != 18)=true:=bne_iff_ne.mpr c61;obtain rfl:=os H;have hcz63__:=gB A1;have hfz63__:=f_ A1;go_wp2;go_ret;exact ⟨er,tb HB⟩
end Go.Proofs.Ythipjoioicmcnaa.G
