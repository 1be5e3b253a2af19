-- texts of this session, merged by a program of it (wip/gen/pack.py)
import Derived.Test.YthipjoioicmcnaaKFnDecide1
import Derived.Test.YthipjoioicmcnaaKFnDecide2
import Derived.Test.YthipjoioicmcnaaKFnDecide12
import Derived.Test.YthipjoioicmcnaaKFnDecide3
set_option linter.unusedVariables false
set_option linter.unusedSimpArgs false
set_option maxHeartbeats 80000000
set_option maxRecDepth 100000
namespace Go.Proofs.Ythipjoioicmcnaa.G
open Go.RowKit Go.Proofs.YthipjoioicmcnaaW.PrintWords Go.Proofs.YthipjoioicmcnaaW.PrintLast Go.Proofs.YthipjoioicmcnaaW.PrintMore Go.Proofs.Ythipjoioicmcnaa.Sh
attribute [local go_sem] dP dR eA eB dB dC dQ dS
def kF.f (a0:Int) (a1:Int) (a2:Int):Option (Int):=(cR.f a0 a1 a2).bind fun A1=>(if A1=true then (if a2 ≥ a0 then (some 0) else (if 0≤(IntKind.u64.wrap (a2)) then ((dO.f a0 (shl .i64 a1 (IntKind.u64.wrap (a2)))).bind fun A0=>(some A0)) else (none))) else (some 0))
theorem kF.calls (a0:Int) (a1:Int) (a2:Int) (r:Int) (w:World) (h:kF.f a0 a1 a2=some r) :
  Calls Try.prog 171 #[.int .i64 a0,.int .i64 a1,.int .i64 a2] w fun e w'=>e = .returned (.int .i64 r)∧bW w w':=by
 have H:((cR.f a0 a1 a2).bind fun A1=>(if A1=true then (if a2 ≥ a0 then (some 0) else (if 0≤(IntKind.u64.wrap (a2)) then ((dO.f a0 (shl .i64 a1 (IntKind.u64.wrap (a2)))).bind fun A0=>(some A0)) else (none))) else (some 0)))=some r:=h;clear h;replace H:=ob H;obtain ⟨A1,A40,H⟩:=H
 try dsimp only at H
 have A4:=aA.mk A40;clear A40
 by_cases c5:A1=true
 ·subst c5
  have H1:(if a2 ≥ a0 then (some 0) else (if 0≤(IntKind.u64.wrap (a2)) then ((dO.f a0 (shl .i64 a1 (IntKind.u64.wrap (a2)))).bind fun A0=>(some A0)) else (none)))=some r:=by rw [if_pos rfl] at H;exact H
  clear H;have H:=H1;clear H1
  by_cases c6:a2 ≥ a0
  ·rw [if_pos c6] at H;have c6b0:decide (a0≤a2)=true:=decide_eq_true c6;clear c6;obtain rfl:=os H
   go_enter Try.func171,Try.ntmps171
   go_wp2_with (first|((with_reducible refine aD (f:=173) rfl ?_);refine aI (some 10) rfl rfl Try.func173 (by kernel_rfl) rfl #[.int .i64 a0,.int .i64 a1,.int .i64 a2] rfl ml ?_;(with_reducible refine (cR.calls a0 a1 a2 true _ A4.out).mono ?_);rintro e w' ⟨rfl,⟨nd,rfl⟩⟩;refine ⟨_,rfl,?_⟩));go_ret;exact ⟨e1,dn⟩
  ·rw [if_neg c6] at H;have c6b0:decide (a0≤a2)=false:=decide_eq_false c6;clear c6;obtain ⟨ji7,hji7⟩:∃ j_:Int,(IntKind.u64.wrap (a2))=j_:=⟨_,rfl⟩
   replace H:(if 0≤(ji7) then ((dO.f a0 (shl .i64 a1 (ji7))).bind fun A0=>(some A0)) else (none))=some r:=by first|(rw [hji7] at H;exact H)|(simp only [hji7] at H ⊢;exact H)
   (try rw [hji7] at A4)
   by_cases c8:0≤(ji7)
   ·rw [if_pos c8] at H;have c8b0:=eq_true c8;have c8b1:decide (0≤(ji7))=true:=decide_eq_true c8;clear c8;obtain ⟨ji9,hji9⟩:∃ j_:Int,(shl .i64 a1 (ji7))=j_:=⟨_,rfl⟩
    replace H:((dO.f a0 (ji9)).bind fun A0=>(some A0))=some r:=by first|(rw [hji9] at H;exact H)|(simp only [hji9] at H ⊢;exact H)
    (try rw [hji9] at A4)
    have hji9_:(IntKind.i64.wrap (a1 * 2 ^ min (ji7).toNat 64))=ji9:=hji9;have hji9z:(ji7)≤64→(IntKind.i64.wrap (a1 * 2 ^ (ji7).toNat))=ji9:=gU hji9;have hji9y:(wrap64 (a1 * 2 ^ min (ji7).toNat 64))=ji9:=(aJ _).symm.trans hji9_
    have hji9x:(ji7)≤64→(wrap64 (a1 * 2 ^ (ji7).toNat))=ji9:=fun h_=>(aJ _).symm.trans (hji9z h_)
    replace H:=ob H;obtain ⟨A0,A100,H⟩:=H;replace H:(some A0)=some r:=H;have A10:=aA.mk A100;clear A100;obtain rfl:=os H
    go_enter Try.func171,Try.ntmps171
    go_wp2_with (first|((with_reducible refine aD (f:=173) rfl ?_);refine aI (some 10) rfl rfl Try.func173 (by kernel_rfl) rfl #[.int .i64 a0,.int .i64 a1,.int .i64 a2] rfl ml ?_;(with_reducible refine (cR.calls a0 a1 a2 true _ A4.out).mono ?_);rintro e w' ⟨rfl,⟨nd,rfl⟩⟩;refine ⟨_,rfl,?_⟩)|((with_reducible refine aD (f:=64) rfl ?_);refine aI (some 22) rfl rfl Try.func64 (by kernel_rfl) rfl #[.int .i64 a0,.int .i64 ji9] rfl (by (try simp only [List.map_toArray,List.map_cons,List.map_nil]);first|done|(simp only [hji9];rfl)|rfl|(simp only [List.length_drop,List.length_take];rfl)) ?_;(with_reducible refine (dO.calls a0 ji9 A0 _ A10.out).mono ?_);rintro e w' ⟨rfl,⟨nd,rfl⟩⟩;refine ⟨_,rfl,?_⟩));go_ret;exact ⟨by first|rfl|(simp;done)|(simp only [← hji7,← hji9] <;> (first|rfl|simp))|(simp [*];done),by repeat (first|exact bW.refl _|apply bW.step)⟩
   ·rw [if_neg c8] at H;exact absurd H (by simp)
 ·replace c5:=Bool.eq_false_iff.mpr c5;subst c5
  have H1:(some 0)=some r:=by rw [if_neg (show ¬ (false=true) by decide)] at H;exact H
  clear H;have H:=H1;clear H1;obtain rfl:=os H
  go_enter Try.func171,Try.ntmps171
  go_wp2_with (first|((with_reducible refine aD (f:=173) rfl ?_);refine aI (some 10) rfl rfl Try.func173 (by kernel_rfl) rfl #[.int .i64 a0,.int .i64 a1,.int .i64 a2] rfl ml ?_;(with_reducible refine (cR.calls a0 a1 a2 false _ A4.out).mono ?_);rintro e w' ⟨rfl,⟨nd,rfl⟩⟩;refine ⟨_,rfl,?_⟩));go_ret;exact ⟨e1,dn⟩
def kG.f (a0:Int) (a1:Int) (a2:Int):Option (Int):=(cR.f a0 a1 a2).bind fun A0=>(if A0=true then (if a2 ≥ a0 then (some 0) else (if 0≤(IntKind.u64.wrap (a2)) then (some (shr .i64 a1 (IntKind.u64.wrap (a2)))) else (none))) else (some 0))
theorem kG.calls (a0:Int) (a1:Int) (a2:Int) (r:Int) (w:World) (h:kG.f a0 a1 a2=some r) :
  Calls Try.prog 172 #[.int .i64 a0,.int .i64 a1,.int .i64 a2] w fun e w'=>e = .returned (.int .i64 r)∧bW w w':=by
 have H:((cR.f a0 a1 a2).bind fun A0=>(if A0=true then (if a2 ≥ a0 then (some 0) else (if 0≤(IntKind.u64.wrap (a2)) then (some (shr .i64 a1 (IntKind.u64.wrap (a2)))) else (none))) else (some 0)))=some r:=h;clear h;replace H:=ob H;obtain ⟨A0,A40,H⟩:=H
 try dsimp only at H
 have A4:=aA.mk A40;clear A40
 by_cases c5:A0=true
 ·subst c5
  have H1:(if a2 ≥ a0 then (some 0) else (if 0≤(IntKind.u64.wrap (a2)) then (some (shr .i64 a1 (IntKind.u64.wrap (a2)))) else (none)))=some r:=by rw [if_pos rfl] at H;exact H
  clear H;have H:=H1;clear H1
  by_cases c6:a2 ≥ a0
  ·rw [if_pos c6] at H;have c6b0:decide (a0≤a2)=true:=decide_eq_true c6;clear c6;obtain rfl:=os H
   go_enter Try.func172,Try.ntmps172
   go_wp2_with (first|((with_reducible refine aD (f:=173) rfl ?_);refine aI (some 10) rfl rfl Try.func173 (by kernel_rfl) rfl #[.int .i64 a0,.int .i64 a1,.int .i64 a2] rfl ml ?_;(with_reducible refine (cR.calls a0 a1 a2 true _ A4.out).mono ?_);rintro e w' ⟨rfl,⟨nd,rfl⟩⟩;refine ⟨_,rfl,?_⟩));go_ret;exact ⟨e1,dn⟩
  ·rw [if_neg c6] at H;have c6b0:decide (a0≤a2)=false:=decide_eq_false c6;clear c6;obtain ⟨ji7,hji7⟩:∃ j_:Int,(IntKind.u64.wrap (a2))=j_:=⟨_,rfl⟩
   replace H:(if 0≤(ji7) then (some (shr .i64 a1 (ji7))) else (none))=some r:=by first|(rw [hji7] at H;exact H)|(simp only [hji7] at H ⊢;exact H)
   (try rw [hji7] at A4)
   by_cases c8:0≤(ji7)
   ·rw [if_pos c8] at H;have c8b0:=eq_true c8;have c8b1:decide (0≤(ji7))=true:=decide_eq_true c8;clear c8;obtain ⟨ji9,hji9⟩:∃ j_:Int,(shr .i64 a1 (ji7))=j_:=⟨_,rfl⟩
    replace H:(some ji9)=some r:=by first|(rw [hji9] at H;exact H)|(simp only [hji9] at H ⊢;exact H)
    (try rw [hji9] at A4)
    have hji9_:(a1 / 2 ^ min (ji7).toNat 64)=ji9:=hji9;have hji9z:(ji7)≤64→(a1 / 2 ^ (ji7).toNat)=ji9:=pZ hji9;obtain rfl:=os H
    go_enter Try.func172,Try.ntmps172
    go_wp2_with (first|((with_reducible refine aD (f:=173) rfl ?_);refine aI (some 10) rfl rfl Try.func173 (by kernel_rfl) rfl #[.int .i64 a0,.int .i64 a1,.int .i64 a2] rfl ml ?_;(with_reducible refine (cR.calls a0 a1 a2 true _ A4.out).mono ?_);rintro e w' ⟨rfl,⟨nd,rfl⟩⟩;refine ⟨_,rfl,?_⟩));go_ret;exact ⟨by first|rfl|(simp;done)|(simp only [← hji7,← hji9] <;> (first|rfl|simp))|(simp [*];done),by repeat (first|exact bW.refl _|apply bW.step)⟩
   ·rw [if_neg c8] at H;exact absurd H (by simp)
 ·replace c5:=Bool.eq_false_iff.mpr c5;subst c5
  have H1:(some 0)=some r:=by rw [if_neg (show ¬ (false=true) by decide)] at H;exact H
  clear H;have H:=H1;clear H1;obtain rfl:=os H
  go_enter Try.func172,Try.ntmps172
  go_wp2_with (first|((with_reducible refine aD (f:=173) rfl ?_);refine aI (some 10) rfl rfl Try.func173 (by kernel_rfl) rfl #[.int .i64 a0,.int .i64 a1,.int .i64 a2] rfl ml ?_;(with_reducible refine (cR.calls a0 a1 a2 false _ A4.out).mono ?_);rintro e w' ⟨rfl,⟨nd,rfl⟩⟩;refine ⟨_,rfl,?_⟩));go_ret;exact ⟨e1,dn⟩
def kH.f (a0:Int) (a1:Int) (a2:Int):Option (Int):=(cR.f a0 a1 a2).bind fun A1=>(if A1=true then ((dO.f a0 (wrap64 (a1 - a2))).bind fun A0=>(some A0)) else (some 0))
theorem kH.calls (a0:Int) (a1:Int) (a2:Int) (r:Int) (w:World) (h:kH.f a0 a1 a2=some r) :
  Calls Try.prog 167 #[.int .i64 a0,.int .i64 a1,.int .i64 a2] w fun e w'=>e = .returned (.int .i64 r)∧bW w w':=by
 have H:((cR.f a0 a1 a2).bind fun A1=>(if A1=true then ((dO.f a0 (wrap64 (a1 - a2))).bind fun A0=>(some A0)) else (some 0)))=some r:=h;clear h;replace H:=ob H;obtain ⟨A1,A40,H⟩:=H;replace H:(if A1=true then ((dO.f a0 (wrap64 (a1 - a2))).bind fun A0=>(some A0)) else (some 0))=some r:=H;have A4:=aA.mk A40;clear A40
 by_cases c5:A1=true
 ·subst c5
  have H1:((dO.f a0 (wrap64 (a1 - a2))).bind fun A0=>(some A0))=some r:=by rw [if_pos rfl] at H;exact H
  clear H;have H:=H1;clear H1;replace H:=ob H;obtain ⟨A0,A60,H⟩:=H;replace H:(some A0)=some r:=H;have A6:=aA.mk A60;clear A60;obtain rfl:=os H
  go_enter Try.func167,Try.ntmps167
  go_wp2_with (first|((with_reducible refine aD (f:=173) rfl ?_);refine aI (some 10) rfl rfl Try.func173 (by kernel_rfl) rfl #[.int .i64 a0,.int .i64 a1,.int .i64 a2] rfl ml ?_;(with_reducible refine (cR.calls a0 a1 a2 true _ A4.out).mono ?_);rintro e w' ⟨rfl,⟨nd,rfl⟩⟩;refine ⟨_,rfl,?_⟩)|((with_reducible refine aD (f:=64) rfl ?_);refine aI (some 16) rfl rfl Try.func64 (by kernel_rfl) rfl #[.int .i64 a0,.int .i64 (wrap64 (a1 - a2))] rfl ml ?_;(with_reducible refine (dO.calls a0 (wrap64 (a1 - a2)) A0 _ A6.out).mono ?_);rintro e w' ⟨rfl,⟨nd,rfl⟩⟩;refine ⟨_,rfl,?_⟩));go_ret;exact ⟨e1,dn⟩
 ·replace c5:=Bool.eq_false_iff.mpr c5;subst c5
  have H1:(some 0)=some r:=by rw [if_neg (show ¬ (false=true) by decide)] at H;exact H
  clear H;have H:=H1;clear H1;obtain rfl:=os H
  go_enter Try.func167,Try.ntmps167
  go_wp2_with (first|((with_reducible refine aD (f:=173) rfl ?_);refine aI (some 10) rfl rfl Try.func173 (by kernel_rfl) rfl #[.int .i64 a0,.int .i64 a1,.int .i64 a2] rfl ml ?_;(with_reducible refine (cR.calls a0 a1 a2 false _ A4.out).mono ?_);rintro e w' ⟨rfl,⟨nd,rfl⟩⟩;refine ⟨_,rfl,?_⟩));go_ret;exact ⟨e1,dn⟩
end Go.Proofs.Ythipjoioicmcnaa.G
namespace Go.Proofs.Ythipjoioicmcnaa.Pure
open Go.RowKit Go.Proofs.Ythipjoioicmcnaa.G Go.Proofs.YthipjoioicmcnaaW.PrintWords Go.Proofs.YthipjoioicmcnaaW.PrintLast Go.Proofs.YthipjoioicmcnaaW.PrintMore
theorem lP (L:List eS) (i:Nat):aV L (i:Int)=L.getD i z66:=by unfold aV;simp
theorem jF (L:List bL) (i:Nat):aC L (i:Int)=L.getD i z99:=by unfold aC;simp
theorem pU (l:List Bool):(ones l).data.toList=l.map fun b=>if b then (49:UInt8) else 48:=by simp [ones]
theorem vV (l:List Bool):(ones l).data.toList.contains 49=l.contains true:=by
 rw [pU]
 induction l with
 | nil=>rfl
 | cons b l ih =>
  rw [List.map_cons,List.contains_cons,List.contains_cons,ih]
  congr 1
  cases b <;> rfl
theorem vU (l:List Bool):(ones l).data.toList.contains 48=l.contains false:=by
 rw [pU]
 induction l with
 | nil=>rfl
 | cons b l ih =>
  rw [List.map_cons,List.contains_cons,List.contains_cons,ih]
  congr 1
  cases b <;> rfl
theorem jD (N:Int) (l:List Bool):eT.f N (ones l)=some (if l.contains true then (if l.contains false then -1 else 1) else 0):=by
 unfold eT.f
 rw [show strings_Contains.f (ones l) ⟨#[49]⟩=some ((ones l).data.toList.contains 49) from rfl,show strings_Contains.f (ones l) ⟨#[48]⟩=some ((ones l).data.toList.contains 48) from rfl,vV,vU]
 have hb:∀ b,cZ.f b=some (if b then 1 else 0):=fun b=>by cases b <;> rfl
 simp only [Option.bind_some,hb]
 cases l.contains true <;> cases l.contains false <;> rfl
end Go.Proofs.Ythipjoioicmcnaa.Pure
