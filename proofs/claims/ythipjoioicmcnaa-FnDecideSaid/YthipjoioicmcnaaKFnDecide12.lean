-- texts of this session, merged by a program of it (wip/gen/pack.py)
import Derived.Test.YthipjoioicmcnaaKFnDecide1
import Derived.Test.YthipjoioicmcnaaKFnDecide2
import Derived.Test.YthipjoioicmcnaaKFnDecide7
import Derived.Test.YthipjoioicmcnaaKFnDecide6
set_option linter.unusedVariables false
set_option linter.unusedSimpArgs false
set_option maxHeartbeats 80000000
set_option maxRecDepth 100000
namespace Go.Proofs.Ythipjoioicmcnaa.G
open Go.RowKit Go.Proofs.YthipjoioicmcnaaW.PrintWords Go.Proofs.YthipjoioicmcnaaW.PrintLast Go.Proofs.YthipjoioicmcnaaW.PrintMore Go.Proofs.Ythipjoioicmcnaa.Sh
attribute [local go_sem] dP dR eA eB dB dC dQ dS
def kQ.f (k:Nat) (a0:Int) (a1:Int) (a2:Int):Option (Int):=(bY.f k a0 a1 a2).bind fun A2=>(if A2=true then ((aH.f k a0).bind fun A1=>((aH.f k a0).bind fun A0=>(if A0=0 then (none) else (some (Int.tmod (wrap64 ((wrap64 (a1 + A1)) - a2)) A0))))) else (some 0))
theorem kQ.calls (k:Nat) (a0:Int) (a1:Int) (a2:Int) (r:Int) (w:World) (h:kQ.f k a0 a1 a2=some r) :
  Calls Try.prog 154 #[.int .i64 a0,.int .i64 a1,.int .i64 a2] w fun e w'=>e = .returned (.int .i64 r)∧bW w w':=by
 have H:((bY.f k a0 a1 a2).bind fun A2=>(if A2=true then ((aH.f k a0).bind fun A1=>((aH.f k a0).bind fun A0=>(if A0=0 then (none) else (some (Int.tmod (wrap64 ((wrap64 (a1 + A1)) - a2)) A0))))) else (some 0)))=some r:=h;clear h;replace H:=ob H;obtain ⟨A2,A40,H⟩:=H
 try dsimp only at H
 have A4:=aA.mk A40;clear A40
 by_cases c5:A2=true
 ·subst c5
  have H1:((aH.f k a0).bind fun A1=>((aH.f k a0).bind fun A0=>(if A0=0 then (none) else (some (Int.tmod (wrap64 ((wrap64 (a1 + A1)) - a2)) A0)))))=some r:=by rw [if_pos rfl] at H;exact H
  clear H;have H:=H1;clear H1;replace H:=ob H;obtain ⟨A1,A60,H⟩:=H
  try dsimp only at H
  have A6:=aA.mk A60;clear A60;replace H:=ob H;obtain ⟨A0,A70,H⟩:=H;replace H:(if A0=0 then (none) else (some (Int.tmod (wrap64 ((wrap64 (a1 + A1)) - a2)) A0)))=some r:=H;have A7:=aA.mk A70;clear A70
  by_cases c8:A0=0
  ·rw [if_pos c8] at H;exact absurd H (by simp)
  ·rw [if_neg c8] at H;have c8b0:(A0 == 0)=false:=beq_eq_false_iff_ne.mpr c8;have c8b1:(A0 != 0)=true:=bne_iff_ne.mpr c8;obtain rfl:=os H
   go_enter Try.func154,Try.ntmps154
   go_wp2_with (first|((with_reducible refine aD (f:=177) rfl ?_);refine aI (some 10) rfl rfl Try.func177 (by kernel_rfl) rfl #[.int .i64 a0,.int .i64 a1,.int .i64 a2] rfl ml ?_;(with_reducible refine (bY.calls k a0 a1 a2 true _ A4.out).mono ?_);rintro e w' ⟨rfl,⟨nd,rfl⟩⟩;refine ⟨_,rfl,?_⟩)|((with_reducible refine aD (f:=70) rfl ?_);refine aI (some 14) rfl rfl Try.func70 (by kernel_rfl) rfl #[.int .i64 a0] rfl ml ?_;(with_reducible refine (aH.calls k a0 A1 _ A6.out).mono ?_);rintro e w' ⟨rfl,⟨nd,rfl⟩⟩;refine ⟨_,rfl,?_⟩)|((with_reducible refine aD (f:=70) rfl ?_);refine aI (some 19) rfl rfl Try.func70 (by kernel_rfl) rfl #[.int .i64 a0] rfl ml ?_;(with_reducible refine (aH.calls k a0 A0 _ A7.out).mono ?_);rintro e w' ⟨rfl,⟨nd,rfl⟩⟩;refine ⟨_,rfl,?_⟩));go_ret;exact ⟨e1,dn⟩
 ·replace c5:=Bool.eq_false_iff.mpr c5;subst c5
  have H1:(some 0)=some r:=by rw [if_neg (show ¬ (false=true) by decide)] at H;exact H
  clear H;have H:=H1;clear H1;obtain rfl:=os H
  go_enter Try.func154,Try.ntmps154
  go_wp2_with (first|((with_reducible refine aD (f:=177) rfl ?_);refine aI (some 10) rfl rfl Try.func177 (by kernel_rfl) rfl #[.int .i64 a0,.int .i64 a1,.int .i64 a2] rfl ml ?_;(with_reducible refine (bY.calls k a0 a1 a2 false _ A4.out).mono ?_);rintro e w' ⟨rfl,⟨nd,rfl⟩⟩;refine ⟨_,rfl,?_⟩));go_ret;exact ⟨e1,dn⟩
end Go.Proofs.Ythipjoioicmcnaa.G
namespace Go.Proofs.Ythipjoioicmcnaa.Pure
open Go.RowKit Go.Proofs.Ythipjoioicmcnaa.G Go.Proofs.YthipjoioicmcnaaW.PrintWords Go.Proofs.YthipjoioicmcnaaW.PrintLast Go.Proofs.YthipjoioicmcnaaW.PrintMore
def rU (s:ByteArray):List Bool:=s.data.toList.map fun c=>c == 49
theorem fT (l:List Bool):rU (ones l)=l:=by
 unfold rU
 simp only [ones,List.map_map]
 exact (List.map_congr_left (fun b _=>by cases b <;> rfl)).trans (List.map_id l)
theorem aAI (N:Int) (s:ByteArray) (p:Int→Option Bool) (g:Nat→Bool) (hs:s.size≤1099511627776) (hp:∀ i:Nat,i < s.size→p (i:Int)=some (g i)):∀ k,s.size < k→cX.f k N s p=some (N,ones ((List.range s.size).map g)):=by
 intro k hk
 unfold cX.f
 rw [if_pos (by omega),if_pos (by omega),Option.bind_some,Int.toNat_natCast,List.length_replicate,← iN]
 have hpl:(((List.range s.size).map g).map nJ).length=(List.replicate s.size (0:Int)).length:=by simp
 have h:=rounds (fun k i=>cX.l0 p k ((((List.range s.size).map g).map nJ).take i ++ (List.replicate s.size (0:Int)).drop i) (s.size:Int) (i:Int) N s) s.size (N,strOfNums (((List.range s.size).map g).map nJ)) ?_ ?_ k hk
 ·simpa using h
 ·intro k i hi
  have hs2:kI.f (if g i then 1 else 0)=some (nJ (g i)):=by cases g i <;> decide +kernel
  have hb:cZ.f (g i)=some (if g i then 1 else 0):=by cases g i <;> rfl
  simp only [cX.l0]
  rw [if_pos (by omega),hp i hi,Option.bind_some,hb,Option.bind_some,hs2,Option.bind_some,if_pos (by omega),if_pos (by simp;omega),eP i (by omega),Int.toNat_natCast,pY _ (List.replicate s.size (0:Int)) i (nJ (g i)) hpl (by simpa using hi) (by simp [hi])]
 ·intro k
  simp only [cX.l0]
  rw [if_neg (by omega),List.take_of_length_le (by simp)]
  simp
def aAZ (N:Int) (s:ByteArray):Int × ByteArray:=if tok N s then (N,ones ((rU s).map not)) else (0,⟨#[]⟩)
theorem tU (l:List Bool) (f:Bool→Bool):(List.range l.length).map (fun i=>f (l.getD i false))=l.map f:=by
 apply List.ext_getElem
 ·simp
 ·intro i h1 h2
  simp only [List.getElem_map,List.getElem_range]
  rw [dZ l i false (by simpa using h1)]
theorem nF (N:Int) (s:ByteArray) (hs:s.size≤1099511627776):∀ k,s.size + 20 < k→fU.f k N s=some (aAZ N s):=by
 intro k hk
 unfold fU.f aAZ
 rw [lB N s hs k hk,Option.bind_some]
 cases ht:tok N s with
 | false=>rfl
 | true =>
  obtain ⟨n,l,rfl,hn,hl,rfl⟩:=mX ht
  rw [if_pos rfl,if_pos rfl,aAI (n:Int) (ones l) _ (fun i => !(l.getD i false)) hs ?_ k (by omega),Option.bind_some,fT,fD,tU l not]
  intro i hi
  rw [fD] at hi
  unfold fE.f
  rw [if_pos (by omega),if_pos (by rw [fD];omega),qJ l i hi]
  cases l.getD i false <;> rfl
theorem jI (n:Int) (h₀:0≤n) (h₁:n < 2 ^ 62):IntKind.i64.wrap n=n:=by rw [IntKind.wrap_i64];omega
theorem zW (a b:Nat) (ha:a < 2 ^ 62) (hb:b < 2 ^ 62):Go.bits .and .i64 (a:Int) (b:Int)=((a &&& b:Nat):Int):=(bits_nat .i64 62 (by decide) jI a b ha hb).1
theorem qS (a b:Nat) (ha:a < 2 ^ 62) (hb:b < 2 ^ 62):Go.bits .or .i64 (a:Int) (b:Int)=((a ||| b:Nat):Int):=(bits_nat .i64 62 (by decide) jI a b ha hb).2
theorem yL (j:Nat):(2:Int) ^ j=((2 ^ j:Nat):Int):=by norm_cast
end Go.Proofs.Ythipjoioicmcnaa.Pure
namespace Go.Proofs.Ythipjoioicmcnaa.G
open Go.RowKit Go.Proofs.YthipjoioicmcnaaW.PrintWords Go.Proofs.YthipjoioicmcnaaW.PrintLast Go.Proofs.YthipjoioicmcnaaW.PrintMore Go.Proofs.Ythipjoioicmcnaa.Sh
attribute [local go_sem] dP dR eA eB dB dC dQ dS
def cR.f (a0:Int) (a1:Int) (a2:Int):Option (Bool):=(cY.f a0 a1).bind fun A1=>(if A1=true then ((cY.f a0 a2).bind fun A0=>(some A0)) else (some false))
theorem cR.calls (a0:Int) (a1:Int) (a2:Int) (r:Bool) (w:World) (h:cR.f a0 a1 a2=some r) :
  Calls Try.prog 173 #[.int .i64 a0,.int .i64 a1,.int .i64 a2] w fun e w'=>e = .returned (.bool r)∧bW w w':=by
 have H:((cY.f a0 a1).bind fun A1=>(if A1=true then ((cY.f a0 a2).bind fun A0=>(some A0)) else (some false)))=some r:=h;clear h;replace H:=ob H;obtain ⟨A1,A40,H⟩:=H;replace H:(if A1=true then ((cY.f a0 a2).bind fun A0=>(some A0)) else (some false))=some r:=H;have A4:=aA.mk A40;clear A40
 by_cases c5:A1=true
 ·subst c5
  have H1:((cY.f a0 a2).bind fun A0=>(some A0))=some r:=by rw [if_pos rfl] at H;exact H
  clear H;have H:=H1;clear H1;replace H:=ob H;obtain ⟨A0,A60,H⟩:=H;replace H:(some A0)=some r:=H;have A6:=aA.mk A60;clear A60;obtain rfl:=os H
  go_enter Try.func173,Try.ntmps173
  go_wp2_with (first|((with_reducible refine aD (f:=165) rfl ?_);refine aI (some 9) rfl rfl Try.func165 (by kernel_rfl) rfl #[.int .i64 a0,.int .i64 a1] rfl ml ?_;(with_reducible refine (cY.calls a0 a1 true _ A4.out).mono ?_);rintro e w' ⟨rfl,⟨nd,rfl⟩⟩;refine ⟨_,rfl,?_⟩)|(go_at_call 165;(try simp only [aJ,aN]);(with_reducible refine (cY.calls a0 a2 A0 _ A6.out).mono ?_);rintro e w' ⟨rfl,⟨nd,rfl⟩⟩));go_ret;exact ⟨e1,dn⟩
 ·replace c5:=Bool.eq_false_iff.mpr c5;subst c5
  have H1:(some false)=some r:=by rw [if_neg (show ¬ (false=true) by decide)] at H;exact H
  clear H;have H:=H1;clear H1;obtain rfl:=os H
  go_enter Try.func173,Try.ntmps173
  go_wp2_with (first|((with_reducible refine aD (f:=165) rfl ?_);refine aI (some 9) rfl rfl Try.func165 (by kernel_rfl) rfl #[.int .i64 a0,.int .i64 a1] rfl ml ?_;(with_reducible refine (cY.calls a0 a1 false _ A4.out).mono ?_);rintro e w' ⟨rfl,⟨nd,rfl⟩⟩;refine ⟨_,rfl,?_⟩));go_ret;exact ⟨e1,dn⟩
def iH.f (a0:Int) (a1:Int):Option (Int):=(cY.f a0 a1).bind fun A0=>(if A0=true then (if 0≤(IntKind.u64.wrap (a0)) then (some (wrap64 ((wrap64 ((shl .i64 1 (IntKind.u64.wrap (a0))) - 1)) - a1))) else (none)) else (some 0))
theorem iH.calls (a0:Int) (a1:Int) (r:Int) (w:World) (h:iH.f a0 a1=some r) :
  Calls Try.prog 140 #[.int .i64 a0,.int .i64 a1] w fun e w'=>e = .returned (.int .i64 r)∧bW w w':=by
 have H:((cY.f a0 a1).bind fun A0=>(if A0=true then (if 0≤(IntKind.u64.wrap (a0)) then (some (wrap64 ((wrap64 ((shl .i64 1 (IntKind.u64.wrap (a0))) - 1)) - a1))) else (none)) else (some 0)))=some r:=h;clear h;replace H:=ob H;obtain ⟨A0,A30,H⟩:=H
 try dsimp only at H
 have A3:=aA.mk A30;clear A30
 by_cases c4:A0=true
 ·subst c4
  have H1:(if 0≤(IntKind.u64.wrap (a0)) then (some (wrap64 ((wrap64 ((shl .i64 1 (IntKind.u64.wrap (a0))) - 1)) - a1))) else (none))=some r:=by rw [if_pos rfl] at H;exact H
  clear H;have H:=H1;clear H1;obtain ⟨ji5,hji5⟩:∃ j_:Int,(IntKind.u64.wrap (a0))=j_:=⟨_,rfl⟩
  replace H:(if 0≤(ji5) then (some (wrap64 ((wrap64 ((shl .i64 1 (ji5)) - 1)) - a1))) else (none))=some r:=by first|(rw [hji5] at H;exact H)|(simp only [hji5] at H ⊢;exact H)
  (try rw [hji5] at A3)
  by_cases c6:0≤(ji5)
  ·rw [if_pos c6] at H;have c6b0:=eq_true c6;have c6b1:decide (0≤(ji5))=true:=decide_eq_true c6;clear c6;obtain ⟨ji7,hji7⟩:∃ j_:Int,(shl .i64 1 (ji5))=j_:=⟨_,rfl⟩
   replace H:(some (wrap64 ((wrap64 ((ji7) - 1)) - a1)))=some r:=by first|(rw [hji7] at H;exact H)|(simp only [hji7] at H ⊢;exact H)
   (try rw [hji7] at A3)
   have hji7_:(IntKind.i64.wrap (1 * 2 ^ min (ji5).toNat 64))=ji7:=hji7;have hji7z:(ji5)≤64→(IntKind.i64.wrap (1 * 2 ^ (ji5).toNat))=ji7:=gU hji7
   have hji7u:(IntKind.i64.wrap (2 ^ min (ji5).toNat 64))=ji7:=by have h_:=hji7_;rw [Int.one_mul] at h_;exact h_
   have hji7v:(ji5)≤64→(IntKind.i64.wrap (2 ^ (ji5).toNat))=ji7:=fun hle_=>by have h_:=hji7z hle_;rw [Int.one_mul] at h_;exact h_
   have hji7y:(wrap64 (1 * 2 ^ min (ji5).toNat 64))=ji7:=(aJ _).symm.trans hji7_
   have hji7x:(ji5)≤64→(wrap64 (1 * 2 ^ (ji5).toNat))=ji7:=fun h_=>(aJ _).symm.trans (hji7z h_)
   obtain rfl:=os H
   go_enter Try.func140,Try.ntmps140
   go_wp2_with (first|((with_reducible refine aD (f:=165) rfl ?_);refine aI (some 7) rfl rfl Try.func165 (by kernel_rfl) rfl #[.int .i64 a0,.int .i64 a1] rfl ml ?_;(with_reducible refine (cY.calls a0 a1 true _ A3.out).mono ?_);rintro e w' ⟨rfl,⟨nd,rfl⟩⟩;refine ⟨_,rfl,?_⟩));go_ret;exact ⟨by first|rfl|(simp;done)|(simp only [← hji5,← hji7] <;> (first|rfl|simp))|(simp [*];done),by repeat (first|exact bW.refl _|apply bW.step)⟩
  ·rw [if_neg c6] at H;exact absurd H (by simp)
 ·replace c4:=Bool.eq_false_iff.mpr c4;subst c4
  have H1:(some 0)=some r:=by rw [if_neg (show ¬ (false=true) by decide)] at H;exact H
  clear H;have H:=H1;clear H1;obtain rfl:=os H
  go_enter Try.func140,Try.ntmps140
  go_wp2_with (first|((with_reducible refine aD (f:=165) rfl ?_);refine aI (some 7) rfl rfl Try.func165 (by kernel_rfl) rfl #[.int .i64 a0,.int .i64 a1] rfl ml ?_;(with_reducible refine (cY.calls a0 a1 false _ A3.out).mono ?_);rintro e w' ⟨rfl,⟨nd,rfl⟩⟩;refine ⟨_,rfl,?_⟩));go_ret;exact ⟨e1,dn⟩
def eV.f (a0:Int) (a1:Int):Option (Int):=(cY.f a0 a1).bind fun A0=>(if A0=true then (if 0≤(IntKind.u64.wrap (wrap64 (a0 - 1))) then (if a1 ≥ (shl .i64 1 (IntKind.u64.wrap (wrap64 (a0 - 1)))) then (if 0≤(IntKind.u64.wrap (a0)) then (some (wrap64 (a1 - (shl .i64 1 (IntKind.u64.wrap (a0)))))) else (none)) else (some a1)) else (none)) else (some 0))
theorem eV.calls (a0:Int) (a1:Int) (r:Int) (w:World) (h:eV.f a0 a1=some r) :
  Calls Try.prog 174 #[.int .i64 a0,.int .i64 a1] w fun e w'=>e = .returned (.int .i64 r)∧bW w w':=by
 have H:((cY.f a0 a1).bind fun A0=>(if A0=true then (if 0≤(IntKind.u64.wrap (wrap64 (a0 - 1))) then (if a1 ≥ (shl .i64 1 (IntKind.u64.wrap (wrap64 (a0 - 1)))) then (if 0≤(IntKind.u64.wrap (a0)) then (some (wrap64 (a1 - (shl .i64 1 (IntKind.u64.wrap (a0)))))) else (none)) else (some a1)) else (none)) else (some 0)))=some r:=h;clear h;replace H:=ob H;obtain ⟨A0,A30,H⟩:=H
 try dsimp only at H
 have A3:=aA.mk A30;clear A30
 by_cases c4:A0=true
 ·subst c4
  have H1:(if 0≤(IntKind.u64.wrap (wrap64 (a0 - 1))) then (if a1 ≥ (shl .i64 1 (IntKind.u64.wrap (wrap64 (a0 - 1)))) then (if 0≤(IntKind.u64.wrap (a0)) then (some (wrap64 (a1 - (shl .i64 1 (IntKind.u64.wrap (a0)))))) else (none)) else (some a1)) else (none))=some r:=by rw [if_pos rfl] at H;exact H
  clear H;have H:=H1;clear H1;obtain ⟨ji5,hji5⟩:∃ j_:Int,(IntKind.u64.wrap (wrap64 (a0 - 1)))=j_:=⟨_,rfl⟩
  replace H:(if 0≤(ji5) then (if a1 ≥ (shl .i64 1 (ji5)) then (if 0≤(IntKind.u64.wrap (a0)) then (some (wrap64 (a1 - (shl .i64 1 (IntKind.u64.wrap (a0)))))) else (none)) else (some a1)) else (none))=some r:=by first|(rw [hji5] at H;exact H)|(simp only [hji5] at H ⊢;exact H)
  (try rw [hji5] at A3)
  by_cases c6:0≤(ji5)
  ·rw [if_pos c6] at H;have c6b0:=eq_true c6;have c6b1:decide (0≤(ji5))=true:=decide_eq_true c6;clear c6;obtain ⟨ji7,hji7⟩:∃ j_:Int,(shl .i64 1 (ji5))=j_:=⟨_,rfl⟩
   replace H:(if a1 ≥ (ji7) then (if 0≤(IntKind.u64.wrap (a0)) then (some (wrap64 (a1 - (shl .i64 1 (IntKind.u64.wrap (a0)))))) else (none)) else (some a1))=some r:=by first|(rw [hji7] at H;exact H)|(simp only [hji7] at H ⊢;exact H)
   (try rw [hji7] at A3)
   have hji7_:(IntKind.i64.wrap (1 * 2 ^ min (ji5).toNat 64))=ji7:=hji7;have hji7z:(ji5)≤64→(IntKind.i64.wrap (1 * 2 ^ (ji5).toNat))=ji7:=gU hji7
   have hji7u:(IntKind.i64.wrap (2 ^ min (ji5).toNat 64))=ji7:=by have h_:=hji7_;rw [Int.one_mul] at h_;exact h_
   have hji7v:(ji5)≤64→(IntKind.i64.wrap (2 ^ (ji5).toNat))=ji7:=fun hle_=>by have h_:=hji7z hle_;rw [Int.one_mul] at h_;exact h_
   have hji7y:(wrap64 (1 * 2 ^ min (ji5).toNat 64))=ji7:=(aJ _).symm.trans hji7_
   have hji7x:(ji5)≤64→(wrap64 (1 * 2 ^ (ji5).toNat))=ji7:=fun h_=>(aJ _).symm.trans (hji7z h_)
   by_cases c8:a1 ≥ (ji7)
   ·rw [if_pos c8] at H;have c8b0:decide ((ji7)≤a1)=true:=decide_eq_true c8;clear c8;obtain ⟨ji9,hji9⟩:∃ j_:Int,(IntKind.u64.wrap (a0))=j_:=⟨_,rfl⟩
    replace H:(if 0≤(ji9) then (some (wrap64 (a1 - (shl .i64 1 (ji9))))) else (none))=some r:=by first|(rw [hji9] at H;exact H)|(simp only [hji9] at H ⊢;exact H)
    (try rw [hji9] at A3)
    by_cases c10:0≤(ji9)
    ·rw [if_pos c10] at H;have c10b0:=eq_true c10;have c10b1:decide (0≤(ji9))=true:=decide_eq_true c10;clear c10;obtain ⟨ji11,hji11⟩:∃ j_:Int,(shl .i64 1 (ji9))=j_:=⟨_,rfl⟩
     replace H:(some (wrap64 (a1 - (ji11))))=some r:=by first|(rw [hji11] at H;exact H)|(simp only [hji11] at H ⊢;exact H)
     (try rw [hji11] at A3)
     have hji11_:(IntKind.i64.wrap (1 * 2 ^ min (ji9).toNat 64))=ji11:=hji11;have hji11z:(ji9)≤64→(IntKind.i64.wrap (1 * 2 ^ (ji9).toNat))=ji11:=gU hji11
     have hji11u:(IntKind.i64.wrap (2 ^ min (ji9).toNat 64))=ji11:=by have h_:=hji11_;rw [Int.one_mul] at h_;exact h_
     have hji11v:(ji9)≤64→(IntKind.i64.wrap (2 ^ (ji9).toNat))=ji11:=fun hle_=>by have h_:=hji11z hle_;rw [Int.one_mul] at h_;exact h_
     have hji11y:(wrap64 (1 * 2 ^ min (ji9).toNat 64))=ji11:=(aJ _).symm.trans hji11_
     have hji11x:(ji9)≤64→(wrap64 (1 * 2 ^ (ji9).toNat))=ji11:=fun h_=>(aJ _).symm.trans (hji11z h_)
     obtain rfl:=os H
     go_enter Try.func174,Try.ntmps174
     go_wp2_with (first|((with_reducible refine aD (f:=165) rfl ?_);refine aI (some 8) rfl rfl Try.func165 (by kernel_rfl) rfl #[.int .i64 a0,.int .i64 a1] rfl ml ?_;(with_reducible refine (cY.calls a0 a1 true _ A3.out).mono ?_);rintro e w' ⟨rfl,⟨nd,rfl⟩⟩;refine ⟨_,rfl,?_⟩));go_ret;exact ⟨by first|rfl|(simp;done)|(simp only [← hji5,← hji7,← hji9,← hji11] <;> (first|rfl|simp))|(simp [*];done),by repeat (first|exact bW.refl _|apply bW.step)⟩
    ·rw [if_neg c10] at H;exact absurd H (by simp)
   ·rw [if_neg c8] at H;have c8b0:decide ((ji7)≤a1)=false:=decide_eq_false c8;clear c8;obtain rfl:=os H
    go_enter Try.func174,Try.ntmps174
    go_wp2_with (first|((with_reducible refine aD (f:=165) rfl ?_);refine aI (some 8) rfl rfl Try.func165 (by kernel_rfl) rfl #[.int .i64 a0,.int .i64 a1] rfl ml ?_;(with_reducible refine (cY.calls a0 a1 true _ A3.out).mono ?_);rintro e w' ⟨rfl,⟨nd,rfl⟩⟩;refine ⟨_,rfl,?_⟩));go_ret;exact ⟨by first|rfl|(simp;done)|(simp only [← hji5,← hji7] <;> (first|rfl|simp))|(simp [*];done),by repeat (first|exact bW.refl _|apply bW.step)⟩
  ·rw [if_neg c6] at H;exact absurd H (by simp)
 ·replace c4:=Bool.eq_false_iff.mpr c4;subst c4
  have H1:(some 0)=some r:=by rw [if_neg (show ¬ (false=true) by decide)] at H;exact H
  clear H;have H:=H1;clear H1;obtain rfl:=os H
  go_enter Try.func174,Try.ntmps174
  go_wp2_with (first|((with_reducible refine aD (f:=165) rfl ?_);refine aI (some 8) rfl rfl Try.func165 (by kernel_rfl) rfl #[.int .i64 a0,.int .i64 a1] rfl ml ?_;(with_reducible refine (cY.calls a0 a1 false _ A3.out).mono ?_);rintro e w' ⟨rfl,⟨nd,rfl⟩⟩;refine ⟨_,rfl,?_⟩));go_ret;exact ⟨e1,dn⟩
def gI.f (a0:Int) (a1:Int) (a2:Int) (a3:Int):Option (Int):=(cY.f a0 a1).bind fun A3=>(if A3=true then ((cA.f a3 1 a0).bind fun A2=>(if A2=true then ((cA.f a2 0 (wrap64 (a0 - a3))).bind fun A1=>(if A1=true then (if 0≤(IntKind.u64.wrap (a2)) then ((dO.f a3 (shr .i64 a1 (IntKind.u64.wrap (a2)))).bind fun A0=>(some A0)) else (none)) else (some 0))) else (some 0))) else (some 0))
theorem gI.calls (a0:Int) (a1:Int) (a2:Int) (a3:Int) (r:Int) (w:World) (h:gI.f a0 a1 a2 a3=some r) :
  Calls Try.prog 144 #[.int .i64 a0,.int .i64 a1,.int .i64 a2,.int .i64 a3] w fun e w'=>e = .returned (.int .i64 r)∧bW w w':=by
 have H:((cY.f a0 a1).bind fun A3=>(if A3=true then ((cA.f a3 1 a0).bind fun A2=>(if A2=true then ((cA.f a2 0 (wrap64 (a0 - a3))).bind fun A1=>(if A1=true then (if 0≤(IntKind.u64.wrap (a2)) then ((dO.f a3 (shr .i64 a1 (IntKind.u64.wrap (a2)))).bind fun A0=>(some A0)) else (none)) else (some 0))) else (some 0))) else (some 0)))=some r:=h;clear h;replace H:=ob H;obtain ⟨A3,A50,H⟩:=H
 try dsimp only at H
 have A5:=aA.mk A50;clear A50
 by_cases c6:A3=true
 ·subst c6
  have H1:((cA.f a3 1 a0).bind fun A2=>(if A2=true then ((cA.f a2 0 (wrap64 (a0 - a3))).bind fun A1=>(if A1=true then (if 0≤(IntKind.u64.wrap (a2)) then ((dO.f a3 (shr .i64 a1 (IntKind.u64.wrap (a2)))).bind fun A0=>(some A0)) else (none)) else (some 0))) else (some 0)))=some r:=by rw [if_pos rfl] at H;exact H
  clear H;have H:=H1;clear H1;replace H:=ob H;obtain ⟨A2,A70,H⟩:=H
  try dsimp only at H
  have A7:=aA.mk A70;clear A70
  by_cases c8:A2=true
  ·subst c8
   have H1:((cA.f a2 0 (wrap64 (a0 - a3))).bind fun A1=>(if A1=true then (if 0≤(IntKind.u64.wrap (a2)) then ((dO.f a3 (shr .i64 a1 (IntKind.u64.wrap (a2)))).bind fun A0=>(some A0)) else (none)) else (some 0)))=some r:=by rw [if_pos rfl] at H;exact H
   clear H;have H:=H1;clear H1;replace H:=ob H;obtain ⟨A1,A90,H⟩:=H
   try dsimp only at H
   have A9:=aA.mk A90;clear A90
   by_cases c10:A1=true
   ·subst c10
    have H1:(if 0≤(IntKind.u64.wrap (a2)) then ((dO.f a3 (shr .i64 a1 (IntKind.u64.wrap (a2)))).bind fun A0=>(some A0)) else (none))=some r:=by rw [if_pos rfl] at H;exact H
    clear H;have H:=H1;clear H1;obtain ⟨ji11,hji11⟩:∃ j_:Int,(IntKind.u64.wrap (a2))=j_:=⟨_,rfl⟩
    replace H:(if 0≤(ji11) then ((dO.f a3 (shr .i64 a1 (ji11))).bind fun A0=>(some A0)) else (none))=some r:=by first|(rw [hji11] at H;exact H)|(simp only [hji11] at H ⊢;exact H)
    (try rw [hji11] at A5)
    (try rw [hji11] at A7)
    (try rw [hji11] at A9)
    by_cases c12:0≤(ji11)
    ·rw [if_pos c12] at H;have c12b0:=eq_true c12;have c12b1:decide (0≤(ji11))=true:=decide_eq_true c12;clear c12;obtain ⟨ji13,hji13⟩:∃ j_:Int,(shr .i64 a1 (ji11))=j_:=⟨_,rfl⟩
     replace H:((dO.f a3 (ji13)).bind fun A0=>(some A0))=some r:=by first|(rw [hji13] at H;exact H)|(simp only [hji13] at H ⊢;exact H)
     (try rw [hji13] at A5)
     (try rw [hji13] at A7)
     (try rw [hji13] at A9)
     have hji13_:(a1 / 2 ^ min (ji11).toNat 64)=ji13:=hji13;have hji13z:(ji11)≤64→(a1 / 2 ^ (ji11).toNat)=ji13:=pZ hji13;replace H:=ob H;obtain ⟨A0,A140,H⟩:=H;replace H:(some A0)=some r:=H;have A14:=aA.mk A140;clear A140;obtain rfl:=os H
     go_enter Try.func144,Try.ntmps144
     go_wp2_with (first|((with_reducible refine aD (f:=165) rfl ?_);refine aI (some 11) rfl rfl Try.func165 (by kernel_rfl) rfl #[.int .i64 a0,.int .i64 a1] rfl ml ?_;(with_reducible refine (cY.calls a0 a1 true _ A5.out).mono ?_);rintro e w' ⟨rfl,⟨nd,rfl⟩⟩;refine ⟨_,rfl,?_⟩)|(go_at_call 61;(try simp only [aJ,aN]);(with_reducible refine (cA.calls a3 1 a0 true _ A7.out).mono ?_);rintro e w' ⟨rfl,⟨nd,rfl⟩⟩)|(go_at_call 61;(try simp only [aJ,aN]);(with_reducible refine (cA.calls a2 0 (wrap64 (a0 - a3)) true _ A9.out).mono ?_);rintro e w' ⟨rfl,⟨nd,rfl⟩⟩)|((with_reducible refine aD (f:=64) rfl ?_);refine aI (some 32) rfl rfl Try.func64 (by kernel_rfl) rfl #[.int .i64 a3,.int .i64 ji13] rfl (by (try simp only [List.map_toArray,List.map_cons,List.map_nil]);first|done|(simp only [hji13];rfl)|rfl|(simp only [List.length_drop,List.length_take];rfl)) ?_;(with_reducible refine (dO.calls a3 ji13 A0 _ A14.out).mono ?_);rintro e w' ⟨rfl,⟨nd,rfl⟩⟩;refine ⟨_,rfl,?_⟩));go_ret;exact ⟨by first|rfl|(simp;done)|(simp only [← hji11,← hji13] <;> (first|rfl|simp))|(simp [*];done),by repeat (first|exact bW.refl _|apply bW.step)⟩
    ·rw [if_neg c12] at H;exact absurd H (by simp)
   ·replace c10:=Bool.eq_false_iff.mpr c10;subst c10
    have H1:(some 0)=some r:=by rw [if_neg (show ¬ (false=true) by decide)] at H;exact H
    clear H;have H:=H1;clear H1;obtain rfl:=os H
    go_enter Try.func144,Try.ntmps144
    go_wp2_with (first|((with_reducible refine aD (f:=165) rfl ?_);refine aI (some 11) rfl rfl Try.func165 (by kernel_rfl) rfl #[.int .i64 a0,.int .i64 a1] rfl ml ?_;(with_reducible refine (cY.calls a0 a1 true _ A5.out).mono ?_);rintro e w' ⟨rfl,⟨nd,rfl⟩⟩;refine ⟨_,rfl,?_⟩)|(go_at_call 61;(try simp only [aJ,aN]);(with_reducible refine (cA.calls a3 1 a0 true _ A7.out).mono ?_);rintro e w' ⟨rfl,⟨nd,rfl⟩⟩)|(go_at_call 61;(try simp only [aJ,aN]);(with_reducible refine (cA.calls a2 0 (wrap64 (a0 - a3)) false _ A9.out).mono ?_);rintro e w' ⟨rfl,⟨nd,rfl⟩⟩));go_ret;exact ⟨e1,dn⟩
  ·replace c8:=Bool.eq_false_iff.mpr c8;subst c8
   have H1:(some 0)=some r:=by rw [if_neg (show ¬ (false=true) by decide)] at H;exact H
   clear H;have H:=H1;clear H1;obtain rfl:=os H
   go_enter Try.func144,Try.ntmps144
   go_wp2_with (first|((with_reducible refine aD (f:=165) rfl ?_);refine aI (some 11) rfl rfl Try.func165 (by kernel_rfl) rfl #[.int .i64 a0,.int .i64 a1] rfl ml ?_;(with_reducible refine (cY.calls a0 a1 true _ A5.out).mono ?_);rintro e w' ⟨rfl,⟨nd,rfl⟩⟩;refine ⟨_,rfl,?_⟩)|(go_at_call 61;(try simp only [aJ,aN]);(with_reducible refine (cA.calls a3 1 a0 false _ A7.out).mono ?_);rintro e w' ⟨rfl,⟨nd,rfl⟩⟩));go_ret;exact ⟨e1,dn⟩
 ·replace c6:=Bool.eq_false_iff.mpr c6;subst c6
  have H1:(some 0)=some r:=by rw [if_neg (show ¬ (false=true) by decide)] at H;exact H
  clear H;have H:=H1;clear H1;obtain rfl:=os H
  go_enter Try.func144,Try.ntmps144
  go_wp2_with (first|((with_reducible refine aD (f:=165) rfl ?_);refine aI (some 11) rfl rfl Try.func165 (by kernel_rfl) rfl #[.int .i64 a0,.int .i64 a1] rfl ml ?_;(with_reducible refine (cY.calls a0 a1 false _ A5.out).mono ?_);rintro e w' ⟨rfl,⟨nd,rfl⟩⟩;refine ⟨_,rfl,?_⟩));go_ret;exact ⟨e1,dn⟩
end Go.Proofs.Ythipjoioicmcnaa.G
