-- texts of this session, merged by a program of it (wip/gen/pack.py)
import Derived.Test.YthipjoioicmcnaaKFnDecide1
import Derived.Test.YthipjoioicmcnaaKFnDecide11
import Derived.Test.YthipjoioicmcnaaKFnDecide7
import Derived.Test.YthipjoioicmcnaaKFnDecide12
import Derived.Test.YthipjoioicmcnaaKFnDecide2
set_option linter.unusedVariables false
set_option linter.unusedSimpArgs false
set_option maxHeartbeats 80000000
set_option maxRecDepth 100000
namespace Go.Proofs.Ythipjoioicmcnaa.G
open Go.RowKit Go.Proofs.YthipjoioicmcnaaW.PrintWords Go.Proofs.YthipjoioicmcnaaW.PrintLast Go.Proofs.YthipjoioicmcnaaW.PrintMore Go.Proofs.Ythipjoioicmcnaa.Sh
attribute [local go_sem] dP dR eA eB dB dC dQ dS
def bS.j0:Nat→Int→Int→Int→Int→Bool→Int→Int→Int→Int→Int→Int→Option (Int)
 | 0,_,_,_,_,_,_,_,_,_,_,_=>none
 | k + 1,x1,x2,x3,x4,x34,x102000,x102001,x102002,x102003,x102004,x102005=>if x34=true then (some 0) else (if x102000=0 then (some x102002) else (if x102000=2 then ((iI.f k x102001 x2).bind fun Ad=>(some Ad)) else (if x102000=3 then (some (Go.bits .and .i64 x2 x3)) else (if x102000=4 then (some (Go.bits .or .i64 x2 x3)) else (if x102000=5 then (some (Go.bits .xor .i64 x2 x3)) else (if x102000=6 then ((kL.f k x102001 x2 x3).bind fun Ae=>(some Ae)) else (if x102000=7 then ((kQ.f k x102001 x2 x3).bind fun Af=>(some Af)) else (if x102000=8 then ((kN.f k x102001 x2 x3).bind fun Ag=>(some Ag)) else (if x102000=9 then ((kM.f k x102001 x2 x3).bind fun Ah=>(some Ah)) else (if x102000=10 then ((kO.f k x102001 x2 x3).bind fun Ai=>(some Ai)) else (if x102000=11 then ((eK.f k x102001 x2 x3).bind fun Aj=>(some Aj)) else (if x102000=12 then ((kP.f k x102001 x2 x3).bind fun Ak=>(some Ak)) else (if x102000=13 then ((cP.f (x2 == x3)).bind fun Al=>(some Al)) else (if x102000=14 then ((jH.f k x1 x2 x3).bind fun Am=>(some Am)) else (if x102000=15 then ((fP.f k x1 x2 x3).bind fun An=>(some An)) else (if x102000=16 then (if x102001 < x1 then (some x3) else ((aH.f k (wrap64 (x102001 - x1))).bind fun Ao=>(some (wrap64 ((wrap64 (x2 * Ao)) + x3))))) else (if x102000=17 then ((dE.f k x1 x2 x102002 x102001).bind fun Ap=>(some Ap)) else (if x102000=18 then (if x2=1 then (some x3) else (some x4)) else (some 0)))))))))))))))))))
def bS.f (k:Nat) (A0:Int) (A2:Int) (A3:Int) (A4:Int) (A5:Int) (A6:Int) (a1:Int) (a2:Int) (a3:Int) (a4:Int):Option (Int):=(bB.f A2 1 8).bind fun Aq=>(if Aq=true then ((bB.f a1 1 8).bind fun Ab=>(if Ab=true then ((bB.f a2 0 255).bind fun Aa=>(if Aa=true then ((bB.f a3 0 255).bind fun A9=>(if A9=true then ((bB.f a4 0 255).bind fun A7=>(bS.j0 k a1 a2 a3 a4 (!A7) A0 A2 A3 A4 A5 A6)) else (bS.j0 k a1 a2 a3 a4 true A0 A2 A3 A4 A5 A6))) else (bS.j0 k a1 a2 a3 a4 true A0 A2 A3 A4 A5 A6))) else (bS.j0 k a1 a2 a3 a4 true A0 A2 A3 A4 A5 A6))) else (bS.j0 k a1 a2 a3 a4 true A0 A2 A3 A4 A5 A6))
theorem bS.calls (k:Nat) (A0:Int) (A2:Int) (A3:Int) (A4:Int) (A5:Int) (A6:Int) (a1:Int) (a2:Int) (a3:Int) (a4:Int) (r:Int) (w:World) (h:bS.f k A0 A2 A3 A4 A5 A6 a1 a2 a3 a4=some r) :
  Calls Try.prog 135 #[.agg #[.int .i64 A0,.int .i64 A2,.int .i64 A3,.int .i64 A4,.int .i64 A5,.int .i64 A6],.int .i64 a1,.int .i64 a2,.int .i64 a3,.int .i64 a4] w fun e w'=>e = .returned (.int .i64 r)∧Below w.heap.size w w':=by
 have hu99:=Try.underlying99;have HB:=aA.mk (Below.refl w.heap.size w);have H:((bB.f A2 1 8).bind fun Aq=>(if Aq=true then ((bB.f a1 1 8).bind fun Ab=>(if Ab=true then ((bB.f a2 0 255).bind fun Aa=>(if Aa=true then ((bB.f a3 0 255).bind fun A9=>(if A9=true then ((bB.f a4 0 255).bind fun A7=>(bS.j0 k a1 a2 a3 a4 (!A7) A0 A2 A3 A4 A5 A6)) else (bS.j0 k a1 a2 a3 a4 true A0 A2 A3 A4 A5 A6))) else (bS.j0 k a1 a2 a3 a4 true A0 A2 A3 A4 A5 A6))) else (bS.j0 k a1 a2 a3 a4 true A0 A2 A3 A4 A5 A6))) else (bS.j0 k a1 a2 a3 a4 true A0 A2 A3 A4 A5 A6)))=some r:=h;clear h;have HC6:=aA.mk H;clear H
 go_enter Try.func135,Try.ntmps135
 go_upto_region 1 with (first|((with_reducible refine bF (N:=5) rfl ?_);refine bx (N:=5) (cs:=#[.int .i64 A0,.int .i64 A2,.int .i64 A3,.int .i64 A4,.int .i64 A5,.int .i64 A6]) (t:=99) ?_;intro Ar hg w7 hbox hb;have A1:=aA.mk (hbox);have GW101:=aA.mk ((by rw [hg];exact (aG (tb HB)):w.heap.size≤Ar));have GE101:=aA.mk ((by rw [hg];exact (aG (tb HB)):w.heap.size≤Ar));replace HB:=aA.mk (aE (tb HB) hb);clear hb hbox hg))
 (try simp only [Act.put,List.setIfInBounds_toArray,List.set_cons_zero,List.set_cons_succ])
 go_cut [34] (fun v34 wc=>∃ (kq:Nat) (Ac:Bool),v34 = .bool Ac∧aA (bS.j0 kq a1 a2 a3 a4 Ac A0 A2 A3 A4 A5 A6=some r)∧aA (kq≤k)∧aA (wc.heap[Ar]? = some (.cells #[.int .i64 A0,.int .i64 A2,.int .i64 A3,.int .i64 A4,.int .i64 A5,.int .i64 A6] 99 (0,0)))∧aA (Below w.heap.size w wc))
 case first =>
  have H:=HC6.out;clear HC6;replace H:=ob H;obtain ⟨Aq,A80,H⟩:=H
  try dsimp only at H
  have A8:=aA.mk A80;clear A80
  by_cases c9:Aq=true
  ·subst c9
   have H1:((bB.f a1 1 8).bind fun Ab=>(if Ab=true then ((bB.f a2 0 255).bind fun Aa=>(if Aa=true then ((bB.f a3 0 255).bind fun A9=>(if A9=true then ((bB.f a4 0 255).bind fun A7=>(bS.j0 k a1 a2 a3 a4 (!A7) A0 A2 A3 A4 A5 A6)) else (bS.j0 k a1 a2 a3 a4 true A0 A2 A3 A4 A5 A6))) else (bS.j0 k a1 a2 a3 a4 true A0 A2 A3 A4 A5 A6))) else (bS.j0 k a1 a2 a3 a4 true A0 A2 A3 A4 A5 A6)))=some r:=by rw [if_pos rfl] at H;exact H
   clear H;have H:=H1;clear H1;replace H:=ob H;obtain ⟨Ab,A100,H⟩:=H
   try dsimp only at H
   have A10:=aA.mk A100;clear A100
   by_cases c11:Ab=true
   ·subst c11
    have H1:((bB.f a2 0 255).bind fun Aa=>(if Aa=true then ((bB.f a3 0 255).bind fun A9=>(if A9=true then ((bB.f a4 0 255).bind fun A7=>(bS.j0 k a1 a2 a3 a4 (!A7) A0 A2 A3 A4 A5 A6)) else (bS.j0 k a1 a2 a3 a4 true A0 A2 A3 A4 A5 A6))) else (bS.j0 k a1 a2 a3 a4 true A0 A2 A3 A4 A5 A6)))=some r:=by rw [if_pos rfl] at H;exact H
    clear H;have H:=H1;clear H1;replace H:=ob H;obtain ⟨Aa,A120,H⟩:=H
    try dsimp only at H
    have A12:=aA.mk A120;clear A120
    by_cases c13:Aa=true
    ·subst c13
     have H1:((bB.f a3 0 255).bind fun A9=>(if A9=true then ((bB.f a4 0 255).bind fun A7=>(bS.j0 k a1 a2 a3 a4 (!A7) A0 A2 A3 A4 A5 A6)) else (bS.j0 k a1 a2 a3 a4 true A0 A2 A3 A4 A5 A6)))=some r:=by rw [if_pos rfl] at H;exact H
     clear H;have H:=H1;clear H1;replace H:=ob H;obtain ⟨A9,A140,H⟩:=H
     try dsimp only at H
     have A14:=aA.mk A140;clear A140
     by_cases c15:A9=true
     ·subst c15
      have H1:((bB.f a4 0 255).bind fun A7=>(bS.j0 k a1 a2 a3 a4 (!A7) A0 A2 A3 A4 A5 A6))=some r:=by rw [if_pos rfl] at H;exact H
      clear H;have H:=H1;clear H1;replace H:=ob H;obtain ⟨A7,A160,H⟩:=H;replace H:(bS.j0 k a1 a2 a3 a4 (!A7) A0 A2 A3 A4 A5 A6)=some r:=H;have A16:=aA.mk A160;clear A160;have H':=aA.mk H;clear H;have hcz17__:=gB A1;have hfz17__:=f_ A1;go_wp2_with (first|((with_reducible refine aD (f:=69) rfl ?_);refine aI (some 13) rfl rfl Try.func69 (by kernel_rfl) rfl #[.int .i64 A2,.int .i64 1,.int .i64 8] rfl ml ?_;(with_reducible refine (bB.calls A2 1 8 true _ A8.out).mono ?_);rintro e w' ⟨rfl,⟨nd,rfl⟩⟩;refine ⟨_,rfl,?_⟩)|(go_at_call 69;(try simp only [aJ,aN]);(with_reducible refine (bB.calls a1 1 8 true _ A10.out).mono ?_);rintro e w' ⟨rfl,⟨nd,rfl⟩⟩)|(go_at_call 69;(try simp only [aJ,aN]);(with_reducible refine (bB.calls a2 0 255 true _ A12.out).mono ?_);rintro e w' ⟨rfl,⟨nd,rfl⟩⟩)|(go_at_call 69;(try simp only [aJ,aN]);(with_reducible refine (bB.calls a3 0 255 true _ A14.out).mono ?_);rintro e w' ⟨rfl,⟨nd,rfl⟩⟩)|(go_at_call 69;(try simp only [aJ,aN]);(with_reducible refine (bB.calls a4 0 255 A7 _ A16.out).mono ?_);rintro e w' ⟨rfl,⟨nd,rfl⟩⟩));go_meet
      case rel=>exact ⟨_,(!A7),(by first|rfl|(simp;done)|(simp [*];done)),H',⟨by first|omega|exact Nat.le_refl _⟩,⟨dr A1⟩,⟨by exact tb HB⟩⟩
     ·replace c15:=Bool.eq_false_iff.mpr c15;subst c15
      have H1:(bS.j0 k a1 a2 a3 a4 true A0 A2 A3 A4 A5 A6)=some r:=by rw [if_neg (show ¬ (false=true) by decide)] at H;exact H
      clear H;have H:=H1;clear H1;have H':=aA.mk H;clear H;have hcz18__:=gB A1;have hfz18__:=f_ A1;go_wp2_with (first|((with_reducible refine aD (f:=69) rfl ?_);refine aI (some 13) rfl rfl Try.func69 (by kernel_rfl) rfl #[.int .i64 A2,.int .i64 1,.int .i64 8] rfl ml ?_;(with_reducible refine (bB.calls A2 1 8 true _ A8.out).mono ?_);rintro e w' ⟨rfl,⟨nd,rfl⟩⟩;refine ⟨_,rfl,?_⟩)|(go_at_call 69;(try simp only [aJ,aN]);(with_reducible refine (bB.calls a1 1 8 true _ A10.out).mono ?_);rintro e w' ⟨rfl,⟨nd,rfl⟩⟩)|(go_at_call 69;(try simp only [aJ,aN]);(with_reducible refine (bB.calls a2 0 255 true _ A12.out).mono ?_);rintro e w' ⟨rfl,⟨nd,rfl⟩⟩)|(go_at_call 69;(try simp only [aJ,aN]);(with_reducible refine (bB.calls a3 0 255 false _ A14.out).mono ?_);rintro e w' ⟨rfl,⟨nd,rfl⟩⟩));go_meet
      case rel=>exact ⟨_,(true),(by first|rfl|(simp;done)|(simp [*];done)),H',⟨by first|omega|exact Nat.le_refl _⟩,⟨dr A1⟩,⟨by exact tb HB⟩⟩
    ·replace c13:=Bool.eq_false_iff.mpr c13;subst c13
     have H1:(bS.j0 k a1 a2 a3 a4 true A0 A2 A3 A4 A5 A6)=some r:=by rw [if_neg (show ¬ (false=true) by decide)] at H;exact H
     clear H;have H:=H1;clear H1;have H':=aA.mk H;clear H;have hcz19__:=gB A1;have hfz19__:=f_ A1;go_wp2_with (first|((with_reducible refine aD (f:=69) rfl ?_);refine aI (some 13) rfl rfl Try.func69 (by kernel_rfl) rfl #[.int .i64 A2,.int .i64 1,.int .i64 8] rfl ml ?_;(with_reducible refine (bB.calls A2 1 8 true _ A8.out).mono ?_);rintro e w' ⟨rfl,⟨nd,rfl⟩⟩;refine ⟨_,rfl,?_⟩)|(go_at_call 69;(try simp only [aJ,aN]);(with_reducible refine (bB.calls a1 1 8 true _ A10.out).mono ?_);rintro e w' ⟨rfl,⟨nd,rfl⟩⟩)|(go_at_call 69;(try simp only [aJ,aN]);(with_reducible refine (bB.calls a2 0 255 false _ A12.out).mono ?_);rintro e w' ⟨rfl,⟨nd,rfl⟩⟩));go_meet
     case rel=>exact ⟨_,(true),(by first|rfl|(simp;done)|(simp [*];done)),H',⟨by first|omega|exact Nat.le_refl _⟩,⟨dr A1⟩,⟨by exact tb HB⟩⟩
   ·replace c11:=Bool.eq_false_iff.mpr c11;subst c11
    have H1:(bS.j0 k a1 a2 a3 a4 true A0 A2 A3 A4 A5 A6)=some r:=by rw [if_neg (show ¬ (false=true) by decide)] at H;exact H
    clear H;have H:=H1;clear H1;have H':=aA.mk H;clear H;have hcz20__:=gB A1;have hfz20__:=f_ A1;go_wp2_with (first|((with_reducible refine aD (f:=69) rfl ?_);refine aI (some 13) rfl rfl Try.func69 (by kernel_rfl) rfl #[.int .i64 A2,.int .i64 1,.int .i64 8] rfl ml ?_;(with_reducible refine (bB.calls A2 1 8 true _ A8.out).mono ?_);rintro e w' ⟨rfl,⟨nd,rfl⟩⟩;refine ⟨_,rfl,?_⟩)|(go_at_call 69;(try simp only [aJ,aN]);(with_reducible refine (bB.calls a1 1 8 false _ A10.out).mono ?_);rintro e w' ⟨rfl,⟨nd,rfl⟩⟩));go_meet
    case rel=>exact ⟨_,(true),(by first|rfl|(simp;done)|(simp [*];done)),H',⟨by first|omega|exact Nat.le_refl _⟩,⟨dr A1⟩,⟨by exact tb HB⟩⟩
  ·replace c9:=Bool.eq_false_iff.mpr c9;subst c9
   have H1:(bS.j0 k a1 a2 a3 a4 true A0 A2 A3 A4 A5 A6)=some r:=by rw [if_neg (show ¬ (false=true) by decide)] at H;exact H
   clear H;have H:=H1;clear H1;have H':=aA.mk H;clear H;have hcz21__:=gB A1;have hfz21__:=f_ A1;go_wp2_with (first|((with_reducible refine aD (f:=69) rfl ?_);refine aI (some 13) rfl rfl Try.func69 (by kernel_rfl) rfl #[.int .i64 A2,.int .i64 1,.int .i64 8] rfl ml ?_;(with_reducible refine (bB.calls A2 1 8 false _ A8.out).mono ?_);rintro e w' ⟨rfl,⟨nd,rfl⟩⟩;refine ⟨_,rfl,?_⟩));go_meet
   case rel=>exact ⟨_,(true),(by first|rfl|(simp;done)|(simp [*];done)),H',⟨by first|omega|exact Nat.le_refl _⟩,⟨dr A1⟩,⟨by exact tb HB⟩⟩
 case rest =>
  clear HC6;obtain ⟨kq,Ac,rfl,HA,HJ5,A1,HB⟩:=hcut
  cases kq with
  | zero=>exact absurd HA.out (by simp [bS.j0])
  | succ kj5 =>
   have H:=HA.out;clear HA;simp only [bS.j0] at H
   by_cases c22:Ac=true
   ·subst c22
    have H1:(some 0)=some r:=by rw [if_pos rfl] at H;exact H
    clear H;have H:=H1;clear H1;obtain rfl:=os H;go_wp2;go_ret;exact ⟨er,tb HB⟩
   ·replace c22:=Bool.eq_false_iff.mpr c22;subst c22
    have H1:(if A0=0 then (some A3) else (if A0=2 then ((iI.f kj5 A2 a2).bind fun Ad=>(some Ad)) else (if A0=3 then (some (Go.bits .and .i64 a2 a3)) else (if A0=4 then (some (Go.bits .or .i64 a2 a3)) else (if A0=5 then (some (Go.bits .xor .i64 a2 a3)) else (if A0=6 then ((kL.f kj5 A2 a2 a3).bind fun Ae=>(some Ae)) else (if A0=7 then ((kQ.f kj5 A2 a2 a3).bind fun Af=>(some Af)) else (if A0=8 then ((kN.f kj5 A2 a2 a3).bind fun Ag=>(some Ag)) else (if A0=9 then ((kM.f kj5 A2 a2 a3).bind fun Ah=>(some Ah)) else (if A0=10 then ((kO.f kj5 A2 a2 a3).bind fun Ai=>(some Ai)) else (if A0=11 then ((eK.f kj5 A2 a2 a3).bind fun Aj=>(some Aj)) else (if A0=12 then ((kP.f kj5 A2 a2 a3).bind fun Ak=>(some Ak)) else (if A0=13 then ((cP.f (a2 == a3)).bind fun Al=>(some Al)) else (if A0=14 then ((jH.f kj5 a1 a2 a3).bind fun Am=>(some Am)) else (if A0=15 then ((fP.f kj5 a1 a2 a3).bind fun An=>(some An)) else (if A0=16 then (if A2 < a1 then (some a3) else ((aH.f kj5 (wrap64 (A2 - a1))).bind fun Ao=>(some (wrap64 ((wrap64 (a2 * Ao)) + a3))))) else (if A0=17 then ((dE.f kj5 a1 a2 A3 A2).bind fun Ap=>(some Ap)) else (if A0=18 then (if a2=1 then (some a3) else (some a4)) else (some 0)))))))))))))))))))=some r:=by rw [if_neg (show ¬ (false=true) by decide)] at H;exact H
    clear H;have H:=H1;clear H1
    by_cases c23:A0=0
    ·rw [if_pos c23] at H;have c23b0:(A0 == 0)=true:=beq_iff_eq.mpr c23;have c23b1:(A0 != 0)=false:=bne_eq_false_iff_eq.mpr c23;clear c23;obtain rfl:=os H;have hcz24__:=gB A1;have hfz24__:=f_ A1;go_wp2;go_ret;exact ⟨er,tb HB⟩
    ·rw [if_neg c23] at H;have c23b0:(A0 == 0)=false:=beq_eq_false_iff_ne.mpr c23;have c23b1:(A0 != 0)=true:=bne_iff_ne.mpr c23
     by_cases c25:A0=2
     ·rw [if_pos c25] at H;have c25b0:(A0 == 2)=true:=beq_iff_eq.mpr c25;have c25b1:(A0 != 2)=false:=bne_eq_false_iff_eq.mpr c25;clear c25;replace H:=ob H;obtain ⟨Ad,A260,H⟩:=H;replace H:(some Ad)=some r:=H;have A26:=aA.mk A260;clear A260;obtain rfl:=os H;have hcz27__:=gB A1;have hfz27__:=f_ A1;go_wp2_with (first|((with_reducible refine aD (f:=152) rfl ?_);refine aI (some 46) rfl rfl Try.func152 (by kernel_rfl) rfl #[.int .i64 A2,.int .i64 a2] rfl ml ?_;(with_reducible refine (iI.calls kj5 A2 a2 Ad _ A26.out).mono ?_);rintro e w' ⟨rfl,⟨nd,rfl⟩⟩;refine ⟨_,rfl,?_⟩));go_ret;exact ⟨er,tb HB⟩
     ·rw [if_neg c25] at H;have c25b0:(A0 == 2)=false:=beq_eq_false_iff_ne.mpr c25;have c25b1:(A0 != 2)=true:=bne_iff_ne.mpr c25
      by_cases c28:A0=3
      ·rw [if_pos c28] at H;have c28b0:(A0 == 3)=true:=beq_iff_eq.mpr c28;have c28b1:(A0 != 3)=false:=bne_eq_false_iff_eq.mpr c28;clear c28;obtain rfl:=os H;have hcz29__:=gB A1;have hfz29__:=f_ A1;go_wp2;go_ret;exact ⟨er,tb HB⟩
      ·rw [if_neg c28] at H;have c28b0:(A0 == 3)=false:=beq_eq_false_iff_ne.mpr c28;have c28b1:(A0 != 3)=true:=bne_iff_ne.mpr c28
       by_cases c30:A0=4
       ·rw [if_pos c30] at H;have c30b0:(A0 == 4)=true:=beq_iff_eq.mpr c30;have c30b1:(A0 != 4)=false:=bne_eq_false_iff_eq.mpr c30;clear c30;obtain rfl:=os H;have hcz31__:=gB A1;have hfz31__:=f_ A1;go_wp2;go_ret;exact ⟨er,tb HB⟩
       ·rw [if_neg c30] at H;have c30b0:(A0 == 4)=false:=beq_eq_false_iff_ne.mpr c30;have c30b1:(A0 != 4)=true:=bne_iff_ne.mpr c30
        by_cases c32:A0=5
        ·rw [if_pos c32] at H;have c32b0:(A0 == 5)=true:=beq_iff_eq.mpr c32;have c32b1:(A0 != 5)=false:=bne_eq_false_iff_eq.mpr c32;clear c32;obtain rfl:=os H;have hcz33__:=gB A1;have hfz33__:=f_ A1;go_wp2;go_ret;exact ⟨er,tb HB⟩
        ·rw [if_neg c32] at H;have c32b0:(A0 == 5)=false:=beq_eq_false_iff_ne.mpr c32;have c32b1:(A0 != 5)=true:=bne_iff_ne.mpr c32
         by_cases c34:A0=6
         ·rw [if_pos c34] at H;have c34b0:(A0 == 6)=true:=beq_iff_eq.mpr c34;have c34b1:(A0 != 6)=false:=bne_eq_false_iff_eq.mpr c34;clear c34;replace H:=ob H;obtain ⟨Ae,A350,H⟩:=H;replace H:(some Ae)=some r:=H;have A35:=aA.mk A350;clear A350;obtain rfl:=os H;have hcz36__:=gB A1;have hfz36__:=f_ A1;go_wp2_with (first|((with_reducible refine aD (f:=153) rfl ?_);refine aI (some 68) rfl rfl Try.func153 (by kernel_rfl) rfl #[.int .i64 A2,.int .i64 a2,.int .i64 a3] rfl ml ?_;(with_reducible refine (kL.calls kj5 A2 a2 a3 Ae _ A35.out).mono ?_);rintro e w' ⟨rfl,⟨nd,rfl⟩⟩;refine ⟨_,rfl,?_⟩));go_ret;exact ⟨er,tb HB⟩
         ·rw [if_neg c34] at H;have c34b0:(A0 == 6)=false:=beq_eq_false_iff_ne.mpr c34;have c34b1:(A0 != 6)=true:=bne_iff_ne.mpr c34
          by_cases c37:A0=7
          ·rw [if_pos c37] at H;have c37b0:(A0 == 7)=true:=beq_iff_eq.mpr c37;have c37b1:(A0 != 7)=false:=bne_eq_false_iff_eq.mpr c37;clear c37;replace H:=ob H;obtain ⟨Af,A380,H⟩:=H;replace H:(some Af)=some r:=H;have A38:=aA.mk A380;clear A380;obtain rfl:=os H;have hcz39__:=gB A1;have hfz39__:=f_ A1;go_wp2_with (first|((with_reducible refine aD (f:=154) rfl ?_);refine aI (some 75) rfl rfl Try.func154 (by kernel_rfl) rfl #[.int .i64 A2,.int .i64 a2,.int .i64 a3] rfl ml ?_;(with_reducible refine (kQ.calls kj5 A2 a2 a3 Af _ A38.out).mono ?_);rintro e w' ⟨rfl,⟨nd,rfl⟩⟩;refine ⟨_,rfl,?_⟩));go_ret;exact ⟨er,tb HB⟩
          ·rw [if_neg c37] at H;have c37b0:(A0 == 7)=false:=beq_eq_false_iff_ne.mpr c37;have c37b1:(A0 != 7)=true:=bne_iff_ne.mpr c37
           by_cases c40:A0=8
           ·rw [if_pos c40] at H;have c40b0:(A0 == 8)=true:=beq_iff_eq.mpr c40;have c40b1:(A0 != 8)=false:=bne_eq_false_iff_eq.mpr c40;clear c40;replace H:=ob H;obtain ⟨Ag,A410,H⟩:=H;replace H:(some Ag)=some r:=H;have A41:=aA.mk A410;clear A410;obtain rfl:=os H;have hcz42__:=gB A1;have hfz42__:=f_ A1;go_wp2_with (first|((with_reducible refine aD (f:=155) rfl ?_);refine aI (some 82) rfl rfl Try.func155 (by kernel_rfl) rfl #[.int .i64 A2,.int .i64 a2,.int .i64 a3] rfl ml ?_;(with_reducible refine (kN.calls kj5 A2 a2 a3 Ag _ A41.out).mono ?_);rintro e w' ⟨rfl,⟨nd,rfl⟩⟩;refine ⟨_,rfl,?_⟩));go_ret;exact ⟨er,tb HB⟩
           ·rw [if_neg c40] at H;have c40b0:(A0 == 8)=false:=beq_eq_false_iff_ne.mpr c40;have c40b1:(A0 != 8)=true:=bne_iff_ne.mpr c40
            by_cases c43:A0=9
            ·rw [if_pos c43] at H;have c43b0:(A0 == 9)=true:=beq_iff_eq.mpr c43;have c43b1:(A0 != 9)=false:=bne_eq_false_iff_eq.mpr c43;clear c43;replace H:=ob H;obtain ⟨Ah,A440,H⟩:=H;replace H:(some Ah)=some r:=H;have A44:=aA.mk A440;clear A440;obtain rfl:=os H;have hcz45__:=gB A1;have hfz45__:=f_ A1;go_wp2_with (first|((with_reducible refine aD (f:=156) rfl ?_);refine aI (some 89) rfl rfl Try.func156 (by kernel_rfl) rfl #[.int .i64 A2,.int .i64 a2,.int .i64 a3] rfl ml ?_;(with_reducible refine (kM.calls kj5 A2 a2 a3 Ah _ A44.out).mono ?_);rintro e w' ⟨rfl,⟨nd,rfl⟩⟩;refine ⟨_,rfl,?_⟩));go_ret;exact ⟨er,tb HB⟩
            ·rw [if_neg c43] at H;have c43b0:(A0 == 9)=false:=beq_eq_false_iff_ne.mpr c43;have c43b1:(A0 != 9)=true:=bne_iff_ne.mpr c43
             by_cases c46:A0=10
             ·rw [if_pos c46] at H;have c46b0:(A0 == 10)=true:=beq_iff_eq.mpr c46;have c46b1:(A0 != 10)=false:=bne_eq_false_iff_eq.mpr c46;clear c46;replace H:=ob H;obtain ⟨Ai,A470,H⟩:=H;replace H:(some Ai)=some r:=H;have A47:=aA.mk A470;clear A470;obtain rfl:=os H;have hcz48__:=gB A1;have hfz48__:=f_ A1;go_wp2_with (first|((with_reducible refine aD (f:=157) rfl ?_);refine aI (some 96) rfl rfl Try.func157 (by kernel_rfl) rfl #[.int .i64 A2,.int .i64 a2,.int .i64 a3] rfl ml ?_;(with_reducible refine (kO.calls kj5 A2 a2 a3 Ai _ A47.out).mono ?_);rintro e w' ⟨rfl,⟨nd,rfl⟩⟩;refine ⟨_,rfl,?_⟩));go_ret;exact ⟨er,tb HB⟩
             ·rw [if_neg c46] at H;have c46b0:(A0 == 10)=false:=beq_eq_false_iff_ne.mpr c46;have c46b1:(A0 != 10)=true:=bne_iff_ne.mpr c46
              by_cases c49:A0=11
              ·rw [if_pos c49] at H;have c49b0:(A0 == 11)=true:=beq_iff_eq.mpr c49;have c49b1:(A0 != 11)=false:=bne_eq_false_iff_eq.mpr c49;clear c49;replace H:=ob H;obtain ⟨Aj,A500,H⟩:=H;replace H:(some Aj)=some r:=H;have A50:=aA.mk A500;clear A500;obtain rfl:=os H;have hcz51__:=gB A1;have hfz51__:=f_ A1;go_wp2_with (first|((with_reducible refine aD (f:=158) rfl ?_);refine aI (some 103) rfl rfl Try.func158 (by kernel_rfl) rfl #[.int .i64 A2,.int .i64 a2,.int .i64 a3] rfl ml ?_;(with_reducible refine (eK.calls kj5 A2 a2 a3 Aj _ A50.out).mono ?_);rintro e w' ⟨rfl,⟨nd,rfl⟩⟩;refine ⟨_,rfl,?_⟩));go_ret;exact ⟨er,tb HB⟩
              ·rw [if_neg c49] at H;have c49b0:(A0 == 11)=false:=beq_eq_false_iff_ne.mpr c49;have c49b1:(A0 != 11)=true:=bne_iff_ne.mpr c49
               by_cases c52:A0=12
               ·rw [if_pos c52] at H;have c52b0:(A0 == 12)=true:=beq_iff_eq.mpr c52;have c52b1:(A0 != 12)=false:=bne_eq_false_iff_eq.mpr c52;clear c52;replace H:=ob H;obtain ⟨Ak,A530,H⟩:=H;replace H:(some Ak)=some r:=H;have A53:=aA.mk A530;clear A530;obtain rfl:=os H;have hcz54__:=gB A1;have hfz54__:=f_ A1;go_wp2_with (first|((with_reducible refine aD (f:=159) rfl ?_);refine aI (some 110) rfl rfl Try.func159 (by kernel_rfl) rfl #[.int .i64 A2,.int .i64 a2,.int .i64 a3] rfl ml ?_;(with_reducible refine (kP.calls kj5 A2 a2 a3 Ak _ A53.out).mono ?_);rintro e w' ⟨rfl,⟨nd,rfl⟩⟩;refine ⟨_,rfl,?_⟩));go_ret;exact ⟨er,tb HB⟩
               ·rw [if_neg c52] at H;have c52b0:(A0 == 12)=false:=beq_eq_false_iff_ne.mpr c52;have c52b1:(A0 != 12)=true:=bne_iff_ne.mpr c52
                by_cases c55:A0=13
                ·rw [if_pos c55] at H;have c55b0:(A0 == 13)=true:=beq_iff_eq.mpr c55;have c55b1:(A0 != 13)=false:=bne_eq_false_iff_eq.mpr c55;clear c55;replace H:=ob H;obtain ⟨Al,A560,H⟩:=H;replace H:(some Al)=some r:=H;have A56:=aA.mk A560;clear A560;obtain rfl:=os H;have hcz57__:=gB A1;have hfz57__:=f_ A1;go_wp2_with (first|((with_reducible refine aD (f:=160) rfl ?_);refine aI (some 116) rfl rfl Try.func160 (by kernel_rfl) rfl #[.bool (a2 == a3)] rfl ml ?_;(with_reducible refine (cP.calls (a2 == a3) Al _ A56.out).mono ?_);rintro e w' ⟨rfl,⟨nd,rfl⟩⟩;refine ⟨_,rfl,?_⟩));go_ret;exact ⟨er,tb HB⟩
                ·rw [if_neg c55] at H;have c55b0:(A0 == 13)=false:=beq_eq_false_iff_ne.mpr c55;have c55b1:(A0 != 13)=true:=bne_iff_ne.mpr c55
                 by_cases c58:A0=14
                 ·rw [if_pos c58] at H;have c58b0:(A0 == 14)=true:=beq_iff_eq.mpr c58;have c58b1:(A0 != 14)=false:=bne_eq_false_iff_eq.mpr c58;clear c58;replace H:=ob H;obtain ⟨Am,A590,H⟩:=H;replace H:(some Am)=some r:=H;have A59:=aA.mk A590;clear A590;obtain rfl:=os H;have hcz60__:=gB A1;have hfz60__:=f_ A1;go_wp2_with (first|((with_reducible refine aD (f:=161) rfl ?_);refine aI (some 122) rfl rfl Try.func161 (by kernel_rfl) rfl #[.int .i64 a1,.int .i64 a2,.int .i64 a3] rfl ml ?_;(with_reducible refine (jH.calls kj5 a1 a2 a3 Am _ A59.out).mono ?_);rintro e w' ⟨rfl,⟨nd,rfl⟩⟩;refine ⟨_,rfl,?_⟩));go_ret;exact ⟨er,tb HB⟩
                 ·rw [if_neg c58] at H;have c58b0:(A0 == 14)=false:=beq_eq_false_iff_ne.mpr c58;have c58b1:(A0 != 14)=true:=bne_iff_ne.mpr c58
                  by_cases c61:A0=15
                  ·rw [if_pos c61] at H;have c61b0:(A0 == 15)=true:=beq_iff_eq.mpr c61;have c61b1:(A0 != 15)=false:=bne_eq_false_iff_eq.mpr c61;clear c61;replace H:=ob H;obtain ⟨An,A620,H⟩:=H;replace H:(some An)=some r:=H;have A62:=aA.mk A620;clear A620;obtain rfl:=os H;have hcz63__:=gB A1;have hfz63__:=f_ A1;go_wp2_with (first|((with_reducible refine aD (f:=162) rfl ?_);refine aI (some 128) rfl rfl Try.func162 (by kernel_rfl) rfl #[.int .i64 a1,.int .i64 a2,.int .i64 a3] rfl ml ?_;(with_reducible refine (fP.calls kj5 a1 a2 a3 An _ A62.out).mono ?_);rintro e w' ⟨rfl,⟨nd,rfl⟩⟩;refine ⟨_,rfl,?_⟩));go_ret;exact ⟨er,tb HB⟩
                  ·rw [if_neg c61] at H;have c61b0:(A0 == 15)=false:=beq_eq_false_iff_ne.mpr c61;have c61b1:(A0 != 15)=true:=bne_iff_ne.mpr c61
                   by_cases c64:A0=16
                   ·rw [if_pos c64] at H;have c64b0:(A0 == 16)=true:=beq_iff_eq.mpr c64;have c64b1:(A0 != 16)=false:=bne_eq_false_iff_eq.mpr c64;clear c64
                    by_cases c65:A2 < a1
                    ·rw [if_pos c65] at H;have c65b0:decide (A2 < a1)=true:=decide_eq_true c65;clear c65;obtain rfl:=os H;have hcz66__:=gB A1;have hfz66__:=f_ A1;go_wp2;go_ret;exact ⟨er,tb HB⟩
                    ·rw [if_neg c65] at H;have c65b0:decide (A2 < a1)=false:=decide_eq_false c65;clear c65;replace H:=ob H;obtain ⟨Ao,A670,H⟩:=H;replace H:(some (wrap64 ((wrap64 (a2 * Ao)) + a3)))=some r:=H;have A67:=aA.mk A670;clear A670;obtain rfl:=os H;have hcz68__:=gB A1;have hfz68__:=f_ A1;go_wp2_with (first|((with_reducible refine aD (f:=70) rfl ?_);refine aI (some 141) rfl rfl Try.func70 (by kernel_rfl) rfl #[.int .i64 (wrap64 (A2 - a1))] rfl ml ?_;(with_reducible refine (aH.calls kj5 (wrap64 (A2 - a1)) Ao _ A67.out).mono ?_);rintro e w' ⟨rfl,⟨nd,rfl⟩⟩;refine ⟨_,rfl,?_⟩));go_ret;exact ⟨er,tb HB⟩
                   ·rw [if_neg c64] at H;have c64b0:(A0 == 16)=false:=beq_eq_false_iff_ne.mpr c64;have c64b1:(A0 != 16)=true:=bne_iff_ne.mpr c64
                    by_cases c69:A0=17
                    ·rw [if_pos c69] at H;have c69b0:(A0 == 17)=true:=beq_iff_eq.mpr c69;have c69b1:(A0 != 17)=false:=bne_eq_false_iff_eq.mpr c69;clear c69;replace H:=ob H;obtain ⟨Ap,A700,H⟩:=H;replace H:(some Ap)=some r:=H;have A70:=aA.mk A700;clear A700;obtain rfl:=os H;have hcz71__:=gB A1;have hfz71__:=f_ A1;go_wp2_with (first|((with_reducible refine aD (f:=163) rfl ?_);refine aI (some 153) rfl rfl Try.func163 (by kernel_rfl) rfl #[.int .i64 a1,.int .i64 a2,.int .i64 A3,.int .i64 A2] rfl ml ?_;(with_reducible refine (dE.calls kj5 a1 a2 A3 A2 Ap _ A70.out).mono ?_);rintro e w' ⟨rfl,⟨nd,rfl⟩⟩;refine ⟨_,rfl,?_⟩));go_ret;exact ⟨er,tb HB⟩
                    ·rw [if_neg c69] at H;have c69b0:(A0 == 17)=false:=beq_eq_false_iff_ne.mpr c69;have c69b1:(A0 != 17)=true:=bne_iff_ne.mpr c69
                     by_cases c72:A0=18
                     ·rw [if_pos c72] at H;have c72b0:(A0 == 18)=true:=beq_iff_eq.mpr c72;have c72b1:(A0 != 18)=false:=bne_eq_false_iff_eq.mpr c72;clear c72
                      by_cases c73:a2=1
                      ·rw [if_pos c73] at H;have c73b0:(a2 == 1)=true:=beq_iff_eq.mpr c73;have c73b1:(a2 != 1)=false:=bne_eq_false_iff_eq.mpr c73;clear c73;obtain rfl:=os H;have hcz74__:=gB A1;have hfz74__:=f_ A1;go_wp2;go_ret;exact ⟨er,tb HB⟩
                      ·rw [if_neg c73] at H;have c73b0:(a2 == 1)=false:=beq_eq_false_iff_ne.mpr c73;have c73b1:(a2 != 1)=true:=bne_iff_ne.mpr c73;obtain rfl:=os H;have hcz75__:=gB A1;have hfz75__:=f_ A1;go_wp2;go_ret;exact ⟨er,tb HB⟩
                     ·rw [if_neg c72] at H;have c72b0:(A0 == 18)=false:=beq_eq_false_iff_ne.mpr c72;have c72b1:(A0 != 18)=true:=bne_iff_ne.mpr c72;obtain rfl:=os H;have hcz76__:=gB A1;have hfz76__:=f_ A1;go_wp2;go_ret;exact ⟨er,tb HB⟩
end Go.Proofs.Ythipjoioicmcnaa.G
