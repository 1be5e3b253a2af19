-- texts of this session, merged by a program of it (wip/gen/pack.py)
import Derived.Test.YthipjoioicmcnaaKFnDecide1
import Derived.Test.YthipjoioicmcnaaKFnDecide6
import Derived.Test.YthipjoioicmcnaaKFnDecide2
import Derived.Test.YthipjoioicmcnaaKFnDecide7
set_option linter.unusedVariables false
set_option linter.unusedSimpArgs false
set_option maxHeartbeats 80000000
set_option maxRecDepth 100000
namespace Go.Proofs.Ythipjoioicmcnaa.G
open Go.RowKit Go.Proofs.YthipjoioicmcnaaW.PrintWords Go.Proofs.YthipjoioicmcnaaW.PrintLast Go.Proofs.YthipjoioicmcnaaW.PrintMore Go.Proofs.Ythipjoioicmcnaa.Sh
attribute [local go_sem] dP dR eA eB dB dC dQ dS
def eU.f (k:Nat) (l0:List Bool) (a1_0:Int) (a1_1:ByteArray):Option (Int × Bool):=(iC.f k l0 a1_0 a1_1).bind fun A6=>(if A6=true then ((eH.f k l0 a1_0 a1_1).bind fun A4=>(some (A4,true))) else (some (0,false)))
theorem eU.calls (k:Nat) (A0:Option Addr) (c0:Nat) (l0:List Bool) (a1_0:Int) (a1_1:ByteArray) (r1:Int) (r2:Bool) (w:World) (hr0:Kd.C Kd.bool w A0 l0.length l0) (hc0:l0.length≤c0) (h:eU.f k l0 a1_0 a1_1=some (r1,r2)) :
  Calls Try.prog 13 #[.slice A0 l0.length c0,.agg #[.int .i64 a1_0,.string a1_1]] w fun e w'=>e = .returned (.tuple #[.int .i64 r1,.bool r2])∧Below w.heap.size w w':=by
 have hu26:=Try.underlying26;have HR0:=aA.mk hr0;have HC0:=aA.mk hc0;clear hr0 hc0;have HB:=aA.mk (Below.refl w.heap.size w);have H:((iC.f k l0 a1_0 a1_1).bind fun A6=>(if A6=true then ((eH.f k l0 a1_0 a1_1).bind fun A4=>(some (A4,true))) else (some (0,false))))=some (r1,r2):=h;clear h;replace H:=ob H;obtain ⟨A6,A30,H⟩:=H;replace H:(if A6=true then ((eH.f k l0 a1_0 a1_1).bind fun A4=>(some (A4,true))) else (some (0,false)))=some (r1,r2):=H;have A3:=aA.mk A30;clear A30
 by_cases c4:A6=true
 ·subst c4
  have H1:((eH.f k l0 a1_0 a1_1).bind fun A4=>(some (A4,true)))=some (r1,r2):=by rw [if_pos rfl] at H;exact H
  clear H;have H:=H1;clear H1;replace H:=ob H;obtain ⟨A4,A50,H⟩:=H;replace H:(some (A4,true))=some (r1,r2):=H;have A5:=aA.mk A50;clear A50;simp only [Option.some.injEq,Prod.mk.injEq] at H;obtain ⟨rfl,rfl⟩:=H
  go_enter Try.func13,Try.ntmps13
  go_wp2_with (first|((with_reducible refine bF (N:=3) rfl ?_);refine bx (N:=3) (cs:=#[.int .i64 a1_0,.string a1_1]) (t:=26) ?_;intro A2 hg w6 hbox hb;have A1:=aA.mk (hbox);have A7:=aA.mk ((by rw [hg];exact (aG (tb HB)):w.heap.size≤A2));have A8:=aA.mk ((by rw [hg];exact (aG (tb HB)):w.heap.size≤A2));replace HB:=aA.mk (aE (tb HB) hb);clear hb hbox hg;have hcz7__:=gP A1;have hfz7__:=f_ A1)|((with_reducible refine aD (f:=58) rfl ?_);refine aI (some 8) rfl rfl Try.func58 (by kernel_rfl) rfl #[.slice A0 l0.length c0,.agg #[.int .i64 a1_0,.string a1_1]] rfl ml ?_;(with_reducible refine (iC.calls k _ _ l0 a1_0 a1_1 true _ ?side1 ?side2 A3.out).mono ?_);(case side1=>exact cw (Kd.C_below HR0.out HB.out));(case side2=>exact HC0.out);rintro e w8 ⟨rfl,hb⟩;refine ⟨_,rfl,?_⟩;replace A1:=aA.mk (aM (g:=A2) (o := .cells #[.int .i64 a1_0,.string a1_1] 26 (0,0)) (dr A1) hb);replace HB:=aA.mk (aE (tb HB) hb);(try clear hb);(try clear hb2);(try clear hk);(try clear hi);have hcz9__:=gP A1;have hfz9__:=f_ A1)|((with_reducible refine aD (f:=59) rfl ?_);refine aI (some 12) rfl rfl Try.func59 (by kernel_rfl) rfl #[.slice A0 l0.length c0,.agg #[.int .i64 a1_0,.string a1_1]] rfl ml ?_;(with_reducible refine (eH.calls k _ _ l0 a1_0 a1_1 A4 _ ?side1 ?side2 A5.out).mono ?_);(case side1=>exact cw (Kd.C_below HR0.out HB.out));(case side2=>exact HC0.out);rintro e w10 ⟨rfl,hb⟩;refine ⟨_,rfl,?_⟩;replace A1:=aA.mk (aM (g:=A2) (o := .cells #[.int .i64 a1_0,.string a1_1] 26 (0,0)) (dr A1) hb);replace HB:=aA.mk (aE (tb HB) hb);(try clear hb);(try clear hb2);(try clear hk);(try clear hi)));go_ret2;exact ⟨er,tb HB⟩
 ·replace c4:=Bool.eq_false_iff.mpr c4;subst c4
  have H1:(some (0,false))=some (r1,r2):=by rw [if_neg (show ¬ (false=true) by decide)] at H;exact H
  clear H;have H:=H1;clear H1;simp only [Option.some.injEq,Prod.mk.injEq] at H;obtain ⟨rfl,rfl⟩:=H
  go_enter Try.func13,Try.ntmps13
  go_wp2_with (first|((with_reducible refine bF (N:=3) rfl ?_);refine bx (N:=3) (cs:=#[.int .i64 a1_0,.string a1_1]) (t:=26) ?_;intro A2 hg w11 hbox hb;have A1:=aA.mk (hbox);have A7:=aA.mk ((by rw [hg];exact (aG (tb HB)):w.heap.size≤A2));have A8:=aA.mk ((by rw [hg];exact (aG (tb HB)):w.heap.size≤A2));replace HB:=aA.mk (aE (tb HB) hb);clear hb hbox hg;have hcz12__:=gP A1;have hfz12__:=f_ A1)|((with_reducible refine aD (f:=58) rfl ?_);refine aI (some 8) rfl rfl Try.func58 (by kernel_rfl) rfl #[.slice A0 l0.length c0,.agg #[.int .i64 a1_0,.string a1_1]] rfl ml ?_;(with_reducible refine (iC.calls k _ _ l0 a1_0 a1_1 false _ ?side1 ?side2 A3.out).mono ?_);(case side1=>exact cw (Kd.C_below HR0.out HB.out));(case side2=>exact HC0.out);rintro e w13 ⟨rfl,hb⟩;refine ⟨_,rfl,?_⟩;replace A1:=aA.mk (aM (g:=A2) (o := .cells #[.int .i64 a1_0,.string a1_1] 26 (0,0)) (dr A1) hb);replace HB:=aA.mk (aE (tb HB) hb);(try clear hb);(try clear hb2);(try clear hk);(try clear hi)));go_ret2;exact ⟨er,tb HB⟩
def cH.f:Nat→List Bool→Int→ByteArray→Option (Int)
 | 0,_,_,_=>none
 | k + 1,l0,a1_0,a1_1=>if a1_0=0 then (if 0 < (a1_1.size:Int) then (some (wrap64 ((wrap64 (bt a1_1 0)) - 48))) else (none)) else ((eM.f k a1_0 a1_1 0).bind fun bt102=>((eM.f k a1_0 a1_1 1).bind fun bt106=>(if 1≤(l0.length:Int) then ((cH.f k (l0.drop 1) bt102.1 bt102.2.1).bind fun Aj=>((cH.f k (l0.drop 1) bt106.1 bt106.2.1).bind fun Ak=>(if 0 < (l0.length:Int) then (if cL false l0 0=true then (some (Go.bits .and .i64 Aj Ak)) else (some (Go.bits .or .i64 Aj Ak))) else (none)))) else (none))))
def cH.T5:Bool × List (List Nat × List Nat):=(true,[([],[]),([0],[0]),([],[]),([1,2],[1,2]),([],[]),([4],[4]),([],[]),([5,6,3],[5,6]),([3,7,0,1,2,3],[3]),([7,8,0,1,2,3,4,5,6,7,8],[7])])
def cH.B5:List Nat:=[0,1,0,7,0,16,0,127,255,511]
theorem cH.tab5:iM .any (oN Try.f108 5)=cH.T5:=by kernel_rfl
theorem cH.bits5:hY cH.T5.2 cH.B5=true:=by kernel_rfl
theorem cH.calls (k:Nat):∀ (A0:Option Addr) (c0:Nat) (l0:List Bool) (a1_0:Int) (a1_1:ByteArray) (r:Int) (w:World) (hr0:Kd.C Kd.bool w A0 l0.length l0) (hc0:l0.length≤c0) (h:cH.f k l0 a1_0 a1_1=some r),
  Calls Try.prog 108 #[.slice A0 l0.length c0,.agg #[.int .i64 a1_0,.string a1_1]] w fun e w'=>e = .returned (.int .i64 r)∧Below w.heap.size w w':=by
 induction k using Nat.strongRecOn with
 | _ k ih =>
 intro A0 c0 l0 a1_0 a1_1 r w hr0 hc0 h
 cases k with
 | zero=>exact absurd h (by simp [cH.f])
 | succ k =>
 simp only [cH.f] at h;have hu26:=Try.underlying26;have HR0:=aA.mk hr0;have HC0:=aA.mk hc0;clear hr0 hc0;have HB:=aA.mk (Below.refl w.heap.size w);have H:(if a1_0=0 then (if 0 < (a1_1.size:Int) then (some (wrap64 ((wrap64 (bt a1_1 0)) - 48))) else (none)) else ((eM.f k a1_0 a1_1 0).bind fun bt102=>((eM.f k a1_0 a1_1 1).bind fun bt106=>(if 1≤(l0.length:Int) then ((cH.f k (l0.drop 1) bt102.1 bt102.2.1).bind fun Aj=>((cH.f k (l0.drop 1) bt106.1 bt106.2.1).bind fun Ak=>(if 0 < (l0.length:Int) then (if cL false l0 0=true then (some (Go.bits .and .i64 Aj Ak)) else (some (Go.bits .or .i64 Aj Ak))) else (none)))) else (none)))))=some r:=h;clear h
 by_cases c3:a1_0=0
 ·rw [if_pos c3] at H;have c3b0:(a1_0 == 0)=true:=beq_iff_eq.mpr c3;have c3b1:(a1_0 != 0)=false:=bne_eq_false_iff_eq.mpr c3;clear c3
  by_cases c4:0 < (a1_1.size:Int)
  ·rw [if_pos c4] at H;have c4b0:decide (0 < (a1_1.size:Int))=true:=decide_eq_true c4;have c4b1:decide (0 < a1_1.size)=true:=decide_eq_true (by omega);clear c4;obtain rfl:=os H
   go_enter Try.func108,Try.ntmps108
   go_wp2_with (first|((with_reducible refine bF (N:=3) rfl ?_);refine bx (N:=3) (cs:=#[.int .i64 a1_0,.string a1_1]) (t:=26) ?_;intro A5 hg w6 hbox hb;have A1:=aA.mk (hbox);have Al:=aA.mk ((by rw [hg];exact (aG (tb HB)):w.heap.size≤A5));have Am:=aA.mk ((by rw [hg];exact (aG (tb HB)):w.heap.size≤A5));replace HB:=aA.mk (aE (tb HB) hb);clear hb hbox hg;have hcz7__:=gP A1;have hfz7__:=f_ A1;have p5:0≤(0:Int):=(by omega);have q5:0 < a1_1.size:=(by have:(0:Int) < (a1_1.size:Int):=od;omega);have hx5:∀ h:0 < a1_1.size,((a1_1[0]'h).toNat:Int)=bt a1_1 0:=lA a1_1 0;clear p5;have qi5:(0 < (a1_1.size:Int))=True:=eq_true (od);replace q5:=eq_true q5));go_ret;exact ⟨er,tb HB⟩
  ·rw [if_neg c4] at H;exact absurd H (by simp)
 ·rw [if_neg c3] at H;have c3b0:(a1_0 == 0)=false:=beq_eq_false_iff_ne.mpr c3;have c3b1:(a1_0 != 0)=true:=bne_iff_ne.mpr c3;replace H:=ob H;obtain ⟨⟨Ad,Af,An⟩,A80,H⟩:=H
  try dsimp only at H
  have A8:=aA.mk A80;clear A80;replace H:=ob H;obtain ⟨⟨Ac,Ae,Ao⟩,A90,H⟩:=H
  try dsimp only at H
  have A9:=aA.mk A90;clear A90
  by_cases c10:1≤(l0.length:Int)
  ·rw [if_pos c10] at H;have c10b0:=eq_true c10;have c10b1:decide (1≤(l0.length:Int))=true:=decide_eq_true c10;clear c10;replace H:=ob H;obtain ⟨Aj,A110,H⟩:=H
   try dsimp only at H
   have A11:=aA.mk A110;clear A110;have c12b0:=eq_true (od:1≤(l0.length:Int));replace H:=ob H;obtain ⟨Ak,A130,H⟩:=H
   try dsimp only at H
   have A13:=aA.mk A130;clear A130
   by_cases c14:0 < (l0.length:Int)
   ·rw [if_pos c14] at H;have c14b0:decide (0 < (l0.length:Int))=true:=decide_eq_true c14;have c14b1:decide (0 < l0.length)=true:=decide_eq_true (by omega);clear c14;obtain ⟨bq15,hbq15⟩:∃ b_:Bool,b_=(cL false l0 0):=⟨_,rfl⟩
    replace H:(if bq15=true then (some (Go.bits .and .i64 Aj Ak)) else (some (Go.bits .or .i64 Aj Ak)))=some r:=by rw [← hbq15] at H;exact H
    have Nbq15:=aA.mk hbq15;clear hbq15
    by_cases c16:bq15=true
    ·subst c16
     have H1:(some (Go.bits .and .i64 Aj Ak))=some r:=by rw [if_pos rfl] at H;exact H
     clear H;have H:=H1;clear H1;obtain rfl:=os H
     go_enter Try.func108,Try.ntmps108
     try go_wp2_with (first|((with_reducible refine bF (N:=3) rfl ?_);refine bx (N:=3) (cs:=#[.int .i64 a1_0,.string a1_1]) (t:=26) ?_;intro A5 hg w17 hbox hb;have A1:=aA.mk (hbox);have Al:=aA.mk ((by rw [hg];exact (aG (tb HB)):w.heap.size≤A5));have Am:=aA.mk ((by rw [hg];exact (aG (tb HB)):w.heap.size≤A5));replace HB:=aA.mk (aE (tb HB) hb);clear hb hbox hg;have hcz18__:=gP A1;have hfz18__:=f_ A1)|((with_reducible refine aD (f:=132) rfl ?_);refine aI (some 21) rfl rfl Try.func132 (by kernel_rfl) rfl #[.agg #[.int .i64 a1_0,.string a1_1],.int .i64 0] rfl ml ?_;(with_reducible refine (eM.calls k a1_0 a1_1 0 Ad Af An _ A8.out).mono ?_);rintro e w19 ⟨rfl,hb⟩;refine ⟨_,rfl,?_⟩;replace A1:=aA.mk (aM (g:=A5) (o := .cells #[.int .i64 a1_0,.string a1_1] 26 (0,0)) (dr A1) hb);replace HB:=aA.mk (aE (tb HB) hb);(try clear hb);(try clear hb2);(try clear hk);(try clear hi))|((with_reducible refine bF (N:=5) rfl ?_);refine bx (N:=5) (cs:=#[.int .i64 0,.string (⟨#[]⟩:ByteArray)]) (t:=26) ?_;intro A6 hg w20 hbox hb;have A2:=aA.mk (hbox);have Ap:=aA.mk ((by rw [hg];exact (aG (tb HB)):w.heap.size≤A6));have Aq:=aA.mk ((by rw [hg];exact (aG (tb HB)):w.heap.size≤A6));replace HB:=aA.mk (aE (tb HB) hb);have A7:=aA.mk ((by rw [hg];exact Nat.ne_of_lt (eE (g:=A5) (o := .cells #[.int .i64 a1_0,.string a1_1] 26 (0,0)) (dr A1)):A5≠A6));have Ag:=aA.mk ((by rw [hg];exact Nat.ne_of_gt (eE (g:=A5) (o := .cells #[.int .i64 a1_0,.string a1_1] 26 (0,0)) (dr A1)):A6≠A5));replace A1:=aA.mk (aM (g:=A5) (o := .cells #[.int .i64 a1_0,.string a1_1] 26 (0,0)) (dr A1) hb);clear hb hbox hg;have hnb21:=Ag.out;have hnc21:=A7.out;have hcz22__:=gP A2;have hfz22__:=f_ A2;have hcz23__:=gP A1;have hfz23__:=f_ A1)|((with_reducible refine aD (f:=132) rfl ?_);refine aI (some 26) rfl rfl Try.func132 (by kernel_rfl) rfl #[.agg #[.int .i64 a1_0,.string a1_1],.int .i64 1] rfl ml ?_;(with_reducible refine (eM.calls k a1_0 a1_1 1 Ac Ae Ao _ A9.out).mono ?_);rintro e w24 ⟨rfl,hb⟩;refine ⟨_,rfl,?_⟩;replace A1:=aA.mk (aM (g:=A5) (o := .cells #[.int .i64 a1_0,.string a1_1] 26 (0,0)) (by (with_reducible repeat (first|refine aW ?_ _|refine aU ?_|refine aX ?_ _));refine eL ?_ A7.out _;(with_reducible repeat (first|refine aW ?_ _|refine aU ?_|refine aX ?_ _));refine eL ?_ A7.out _;(with_reducible repeat (first|refine aW ?_ _|refine aU ?_|refine aX ?_ _));exact A1.out) hb);replace A2:=aA.mk (aM (g:=A6) (o := .cells #[.int .i64 Ad,.string Af] 26 (0,0)) (by (with_reducible repeat (first|refine aW ?_ _|refine aU ?_|refine aX ?_ _));refine bU (cs:=#[.int .i64 Ad,.string (⟨#[]⟩:ByteArray)]) ?_ 1 _ rfl;(with_reducible repeat (first|refine aW ?_ _|refine aU ?_|refine aX ?_ _));refine bU (cs:=#[.int .i64 0,.string (⟨#[]⟩:ByteArray)]) ?_ 0 _ rfl;(with_reducible repeat (first|refine aW ?_ _|refine aU ?_|refine aX ?_ _));exact A2.out) hb);replace HB:=aA.mk (aE (tb HB) hb);(try clear hb);(try clear hb2);(try clear hk);(try clear hi))|((with_reducible refine bF (N:=7) rfl ?_);refine bx (N:=7) (cs:=#[.int .i64 0,.string (⟨#[]⟩:ByteArray)]) (t:=26) ?_;intro A3 hg w25 hbox hb;have A4:=aA.mk (hbox);have Ar:=aA.mk ((by rw [hg];exact (aG (tb HB)):w.heap.size≤A3));have As:=aA.mk ((by rw [hg];exact (aG (tb HB)):w.heap.size≤A3));replace HB:=aA.mk (aE (tb HB) hb);have Aa:=aA.mk ((by rw [hg];exact Nat.ne_of_lt (eE (g:=A5) (o := .cells #[.int .i64 a1_0,.string a1_1] 26 (0,0)) (dr A1)):A5≠A3));have Ah:=aA.mk ((by rw [hg];exact Nat.ne_of_gt (eE (g:=A5) (o := .cells #[.int .i64 a1_0,.string a1_1] 26 (0,0)) (dr A1)):A3≠A5));replace A1:=aA.mk (aM (g:=A5) (o := .cells #[.int .i64 a1_0,.string a1_1] 26 (0,0)) (dr A1) hb);have Ab:=aA.mk ((by rw [hg];exact Nat.ne_of_lt (eE (g:=A6) (o := .cells #[.int .i64 Ad,.string Af] 26 (0,0)) (dr A2)):A6≠A3));have Ai:=aA.mk ((by rw [hg];exact Nat.ne_of_gt (eE (g:=A6) (o := .cells #[.int .i64 Ad,.string Af] 26 (0,0)) (dr A2)):A3≠A6));replace A2:=aA.mk (aM (g:=A6) (o := .cells #[.int .i64 Ad,.string Af] 26 (0,0)) (dr A2) hb);clear hb hbox hg;have hnb26:=Ah.out;have hnc26:=Aa.out;have hnb27:=Ai.out;have hnc27:=Ab.out;have hcz28__:=gP A4;have hfz28__:=f_ A4))
     have n0_:aA (((w25.setCell ⟨A3,0,none⟩ (.int .i64 Ac)).setCell ⟨A3,1,none⟩ (.string Ae)).heap[A5]? = some (.cells #[.int .i64 a1_0,.string a1_1] 26 (0,0))):=⟨by (with_reducible repeat (first|refine aW ?_ _|refine aU ?_|refine aX ?_ _));refine eL ?_ Aa.out _;(with_reducible repeat (first|refine aW ?_ _|refine aU ?_|refine aX ?_ _));refine eL ?_ Aa.out _;(with_reducible repeat (first|refine aW ?_ _|refine aU ?_|refine aX ?_ _));exact A1.out⟩;have n1_:aA (((w25.setCell ⟨A3,0,none⟩ (.int .i64 Ac)).setCell ⟨A3,1,none⟩ (.string Ae)).heap[A6]? = some (.cells #[.int .i64 Ad,.string Af] 26 (0,0))):=⟨by (with_reducible repeat (first|refine aW ?_ _|refine aU ?_|refine aX ?_ _));refine eL ?_ Ab.out _;(with_reducible repeat (first|refine aW ?_ _|refine aU ?_|refine aX ?_ _));refine eL ?_ Ab.out _;(with_reducible repeat (first|refine aW ?_ _|refine aU ?_|refine aX ?_ _));exact A2.out⟩;have n2_:aA (((w25.setCell ⟨A3,0,none⟩ (.int .i64 Ac)).setCell ⟨A3,1,none⟩ (.string Ae)).heap[A3]? = some (.cells #[.int .i64 Ac,.string Ae] 26 (0,0))):=⟨by (with_reducible repeat (first|refine aW ?_ _|refine aU ?_|refine aX ?_ _));refine bU (cs:=#[.int .i64 Ac,.string (⟨#[]⟩:ByteArray)]) ?_ 1 _ rfl;(with_reducible repeat (first|refine aW ?_ _|refine aU ?_|refine aX ?_ _));refine bU (cs:=#[.int .i64 0,.string (⟨#[]⟩:ByteArray)]) ?_ 0 _ rfl;(with_reducible repeat (first|refine aW ?_ _|refine aU ?_|refine aX ?_ _));exact A4.out⟩;have n3_:aA (Below w.heap.size w ((w25.setCell ⟨A3,0,none⟩ (.int .i64 Ac)).setCell ⟨A3,1,none⟩ (.string Ae))):=⟨by exact tb HB⟩;(try clear A1);(try clear A2);(try clear A4);(try clear HB);generalize ((w25.setCell ⟨A3,0,none⟩ (.int .i64 Ac)).setCell ⟨A3,1,none⟩ (.string Ae))=w29 at n0_ n1_ n2_ n3_ ⊢;have A1:=n0_;have A2:=n1_;have A4:=n2_;have HB:=n3_;clear n0_ n1_ n2_ n3_;have n0_:=aA.mk (aU A1.out);have n1_:=aA.mk (aU A2.out);have n2_:=aA.mk (aU A4.out);have n3_:=aA.mk (bO HB.out);clear A1;clear A2;clear A4;clear HB;have A1:=n0_;have A2:=n1_;have A4:=n2_;have HB:=n3_;clear n0_ n1_ n2_ n3_;obtain ⟨i031,hi031,_,hsz31,_⟩:=info_parts iY;obtain ⟨A31,hcut31,hA31,hC31⟩:=fV (P:=Try.prog) Value.bool false 24 4 .i64 Try.underlying24 hi031 hsz31 A0 c0 l0 1 (by omega) (od) HC0.out;have HR110:=aA.mk (Kd.C_of_reads (h1:=fun _=>rfl) (hA31 _ (Kd.reads_of_C HR0.out)));have HC110:=aA.mk hC31;clear hA31 hC31 hi031 hsz31;obtain ⟨i032,hi032,_,hsz32,_⟩:=info_parts iY;obtain ⟨A32,hcut32,hA32,hC32⟩:=fV (P:=Try.prog) Value.bool false 24 4 .i64 Try.underlying24 hi032 hsz32 A0 c0 l0 1 (by omega) (od) HC0.out
     obtain rfl:A31=A32:=by have e_:=(hcut31 w).symm.trans (hcut32 w);injection e_ with e_;injection e_
     have HR112:=aA.mk (Kd.C_of_reads (h1:=fun _=>rfl) (hA32 _ (Kd.reads_of_C HR0.out)));have HC112:=aA.mk hC32;clear hA32 hC32 hi032 hsz32;refine fM (n:=10) (S:=fun w'=>w'.cell? ⟨A6,0,none⟩=some (.int .i64 Ad)∧w'.cell? ⟨A6,1,none⟩=some (.string Af)∧w'.cell? ⟨A3,0,none⟩=some (.int .i64 Ac)∧w'.cell? ⟨A3,1,none⟩=some (.string Ae)) (ds:=[]) (tf 0 10) (by kernel_rfl) rfl rfl ⟨(aY A2.out 0).trans rfl,(aY A2.out 1).trans rfl,(aY A4.out 0).trans rfl,(aY A4.out 1).trans rfl⟩ (fun hHeld=>?_);refine iJ cH.tab5 cH.bits5 (fun HT_ HW_=>?_);generalize w29.drew=w30 at A1 A2 A4 HB HR110 HR112 hHeld ⊢;refine hJ HT_ 0 29 (tf 1 9) ?_;refine hJ HT_ 1 30 (tf 2 8) ?_;refine hJ HT_ 4 33 #[true,true,false,false,true,false,false,false,false,false] ?_;refine hJ HT_ 5 34 #[true,true,false,false,true,true,false,false,false,false] ?_;refine vL HT_ HW_ 2 31 #[true,true,true,false,true,true,false,false,false,false] hHeld ?_;refine vL HT_ HW_ 6 35 #[true,true,true,false,true,true,true,false,false,false] hHeld ?_;refine gC (i:=3) (N:=some 32) (tf 7 3) rfl rfl (iD HT_.out (by kernel_rfl)) (by decide) (fun K hK=>?_);refine fQ Try.func108 (by kernel_rfl) rfl #[.slice A31 (l0.drop 1).length (c0 - 1),.agg #[.int .i64 Ad,.string Af]] (by rfl) rfl rfl (by (try simp only [List.map_toArray,List.map_cons,List.map_nil]);first|done|(rw [show (l0.drop 1).length=(l0.length - 1) from List.length_drop] <;> rfl)|rfl|(simp only [List.length_drop,List.length_take];rfl)) ?_
     with_reducible refine (ih k (by omega) _ _ (l0.drop 1) Ad Af Aj _ ?side1 ?side2 A11.out).mono ?_
     (case side1=>exact cw (Kd.C_below HR110.out HB.out))
     (case side2=>exact HC110.out)
     rintro e w33 ⟨rfl,hb⟩;refine ⟨_,rfl,?_⟩;have n0_:=aA.mk (aM (g:=A5) (o := .cells #[.int .i64 a1_0,.string a1_1] 26 (0,0)) (dr A1) hb);have n1_:=aA.mk (aM (g:=A6) (o := .cells #[.int .i64 Ad,.string Af] 26 (0,0)) (dr A2) hb);have n2_:=aA.mk (aM (g:=A3) (o := .cells #[.int .i64 Ac,.string Ae] 26 (0,0)) (dr A4) hb);have n3_:=aA.mk (aE (tb HB) hb);clear A1;clear A2;clear A4;clear HB;have A1:=n0_;have A2:=n1_;have A4:=n2_;have HB:=n3_;clear n0_ n1_ n2_ n3_;(try clear hb);(try clear hb2);(try clear hk);(try clear hi);refine hK.out _ _ ⟨(aY A2.out 0).trans rfl,(aY A2.out 1).trans rfl,(aY A4.out 0).trans rfl,(aY A4.out 1).trans rfl⟩ (fun hHeld=>?_);clear hK K;refine eG (a':=?_) ?_ ?_;rotate_left
     ·show Act.put _ (some 32) _=_
      simp only [Act.put,s1,s2,s3,aJ,aN];rfl
     refine gC (i:=7) (N:=some 36) (tf 8 2) rfl rfl (iD HT_.out (by kernel_rfl)) (by decide) (fun K hK=>?_);refine fQ Try.func108 (by kernel_rfl) rfl #[.slice A31 (l0.drop 1).length (c0 - 1),.agg #[.int .i64 Ac,.string Ae]] (by rfl) rfl rfl (by (try simp only [List.map_toArray,List.map_cons,List.map_nil]);first|done|(rw [show (l0.drop 1).length=(l0.length - 1) from List.length_drop] <;> rfl)|rfl|(simp only [List.length_drop,List.length_take];rfl)) ?_
     with_reducible refine (ih k (by omega) _ _ (l0.drop 1) Ac Ae Ak _ ?side1 ?side2 A13.out).mono ?_
     (case side1=>exact cw (Kd.C_below HR112.out HB.out))
     (case side2=>exact HC112.out)
     rintro e w34 ⟨rfl,hb⟩;refine ⟨_,rfl,?_⟩;have n0_:=aA.mk (aM (g:=A5) (o := .cells #[.int .i64 a1_0,.string a1_1] 26 (0,0)) (dr A1) hb);have n1_:=aA.mk (aM (g:=A6) (o := .cells #[.int .i64 Ad,.string Af] 26 (0,0)) (dr A2) hb);have n2_:=aA.mk (aM (g:=A3) (o := .cells #[.int .i64 Ac,.string Ae] 26 (0,0)) (dr A4) hb);have n3_:=aA.mk (aE (tb HB) hb);clear A1;clear A2;clear A4;clear HB;have A1:=n0_;have A2:=n1_;have A4:=n2_;have HB:=n3_;clear n0_ n1_ n2_ n3_;(try clear hb);(try clear hb2);(try clear hk);(try clear hi);refine hK.out _ _ ⟨(aY A2.out 0).trans rfl,(aY A2.out 1).trans rfl,(aY A4.out 0).trans rfl,(aY A4.out 1).trans rfl⟩ (fun hHeld=>?_);clear hK K;refine eG (a':=?_) ?_ ?_;rotate_left
     ·show Act.put _ (some 36) _=_
      simp only [Act.put,s1,s2,s3,aJ,aN];rfl
     refine hJ HT_ 8 9 (tf 9 1) ?_;refine hJ HT_ 9 10 (tf 10 0) ?_;refine iG (jS HT_.out (by kernel_rfl)) ?_;have p114:0≤(0:Int):=(by omega);have q114:0 < (l0.length:Int):=od;obtain ⟨ad114,e114,hx114_0⟩:=Kd.at_bool HR0.out 0 p114 q114
     (try rw [← Nbq15.out] at hx114_0)
     cases e114;have qi114:(0 < l0.length)=True:=eq_true (by omega)
     (try rw [show ((0:Int)).toNat=0 from rfl] at hx114_0)
     (try rw [Addr.add_zero'] at hx114_0)
     replace hx114_0:=ct HB hx114_0;replace p114:=eq_true p114;replace q114:=eq_true q114
     try go_wp2
     go_ret;exact ⟨by first|exact er|(simp [dM,dN,show ¬ l0=[] from by intro h_;rw [h_] at c14b0;simp at c14b0];done)|(simp [*,show ¬ l0=[] from by intro h_;rw [h_] at c14b0;simp at c14b0];done)|(simp [dM,dN,show ¬ l0=[] from by intro h_;rw [h_] at c14b0;simp at c14b0] <;> rfl),tb HB⟩
    ·replace c16:=Bool.eq_false_iff.mpr c16;subst c16
     have H1:(some (Go.bits .or .i64 Aj Ak))=some r:=by rw [if_neg (show ¬ (false=true) by decide)] at H;exact H
     clear H;have H:=H1;clear H1;obtain rfl:=os H
     go_enter Try.func108,Try.ntmps108
     try go_wp2_with (first|((with_reducible refine bF (N:=3) rfl ?_);refine bx (N:=3) (cs:=#[.int .i64 a1_0,.string a1_1]) (t:=26) ?_;intro A5 hg w35 hbox hb;have A1:=aA.mk (hbox);have Al:=aA.mk ((by rw [hg];exact (aG (tb HB)):w.heap.size≤A5));have Am:=aA.mk ((by rw [hg];exact (aG (tb HB)):w.heap.size≤A5));replace HB:=aA.mk (aE (tb HB) hb);clear hb hbox hg;have hcz36__:=gP A1;have hfz36__:=f_ A1)|((with_reducible refine aD (f:=132) rfl ?_);refine aI (some 21) rfl rfl Try.func132 (by kernel_rfl) rfl #[.agg #[.int .i64 a1_0,.string a1_1],.int .i64 0] rfl ml ?_;(with_reducible refine (eM.calls k a1_0 a1_1 0 Ad Af An _ A8.out).mono ?_);rintro e w37 ⟨rfl,hb⟩;refine ⟨_,rfl,?_⟩;replace A1:=aA.mk (aM (g:=A5) (o := .cells #[.int .i64 a1_0,.string a1_1] 26 (0,0)) (dr A1) hb);replace HB:=aA.mk (aE (tb HB) hb);(try clear hb);(try clear hb2);(try clear hk);(try clear hi))|((with_reducible refine bF (N:=5) rfl ?_);refine bx (N:=5) (cs:=#[.int .i64 0,.string (⟨#[]⟩:ByteArray)]) (t:=26) ?_;intro A6 hg w38 hbox hb;have A2:=aA.mk (hbox);have Ap:=aA.mk ((by rw [hg];exact (aG (tb HB)):w.heap.size≤A6));have Aq:=aA.mk ((by rw [hg];exact (aG (tb HB)):w.heap.size≤A6));replace HB:=aA.mk (aE (tb HB) hb);have A7:=aA.mk ((by rw [hg];exact Nat.ne_of_lt (eE (g:=A5) (o := .cells #[.int .i64 a1_0,.string a1_1] 26 (0,0)) (dr A1)):A5≠A6));have Ag:=aA.mk ((by rw [hg];exact Nat.ne_of_gt (eE (g:=A5) (o := .cells #[.int .i64 a1_0,.string a1_1] 26 (0,0)) (dr A1)):A6≠A5));replace A1:=aA.mk (aM (g:=A5) (o := .cells #[.int .i64 a1_0,.string a1_1] 26 (0,0)) (dr A1) hb);clear hb hbox hg;have hnb39:=Ag.out;have hnc39:=A7.out;have hcz40__:=gP A2;have hfz40__:=f_ A2;have hcz41__:=gP A1;have hfz41__:=f_ A1)|((with_reducible refine aD (f:=132) rfl ?_);refine aI (some 26) rfl rfl Try.func132 (by kernel_rfl) rfl #[.agg #[.int .i64 a1_0,.string a1_1],.int .i64 1] rfl ml ?_;(with_reducible refine (eM.calls k a1_0 a1_1 1 Ac Ae Ao _ A9.out).mono ?_);rintro e w42 ⟨rfl,hb⟩;refine ⟨_,rfl,?_⟩;replace A1:=aA.mk (aM (g:=A5) (o := .cells #[.int .i64 a1_0,.string a1_1] 26 (0,0)) (by (with_reducible repeat (first|refine aW ?_ _|refine aU ?_|refine aX ?_ _));refine eL ?_ A7.out _;(with_reducible repeat (first|refine aW ?_ _|refine aU ?_|refine aX ?_ _));refine eL ?_ A7.out _;(with_reducible repeat (first|refine aW ?_ _|refine aU ?_|refine aX ?_ _));exact A1.out) hb);replace A2:=aA.mk (aM (g:=A6) (o := .cells #[.int .i64 Ad,.string Af] 26 (0,0)) (by (with_reducible repeat (first|refine aW ?_ _|refine aU ?_|refine aX ?_ _));refine bU (cs:=#[.int .i64 Ad,.string (⟨#[]⟩:ByteArray)]) ?_ 1 _ rfl;(with_reducible repeat (first|refine aW ?_ _|refine aU ?_|refine aX ?_ _));refine bU (cs:=#[.int .i64 0,.string (⟨#[]⟩:ByteArray)]) ?_ 0 _ rfl;(with_reducible repeat (first|refine aW ?_ _|refine aU ?_|refine aX ?_ _));exact A2.out) hb);replace HB:=aA.mk (aE (tb HB) hb);(try clear hb);(try clear hb2);(try clear hk);(try clear hi))|((with_reducible refine bF (N:=7) rfl ?_);refine bx (N:=7) (cs:=#[.int .i64 0,.string (⟨#[]⟩:ByteArray)]) (t:=26) ?_;intro A3 hg w43 hbox hb;have A4:=aA.mk (hbox);have Ar:=aA.mk ((by rw [hg];exact (aG (tb HB)):w.heap.size≤A3));have As:=aA.mk ((by rw [hg];exact (aG (tb HB)):w.heap.size≤A3));replace HB:=aA.mk (aE (tb HB) hb);have Aa:=aA.mk ((by rw [hg];exact Nat.ne_of_lt (eE (g:=A5) (o := .cells #[.int .i64 a1_0,.string a1_1] 26 (0,0)) (dr A1)):A5≠A3));have Ah:=aA.mk ((by rw [hg];exact Nat.ne_of_gt (eE (g:=A5) (o := .cells #[.int .i64 a1_0,.string a1_1] 26 (0,0)) (dr A1)):A3≠A5));replace A1:=aA.mk (aM (g:=A5) (o := .cells #[.int .i64 a1_0,.string a1_1] 26 (0,0)) (dr A1) hb);have Ab:=aA.mk ((by rw [hg];exact Nat.ne_of_lt (eE (g:=A6) (o := .cells #[.int .i64 Ad,.string Af] 26 (0,0)) (dr A2)):A6≠A3));have Ai:=aA.mk ((by rw [hg];exact Nat.ne_of_gt (eE (g:=A6) (o := .cells #[.int .i64 Ad,.string Af] 26 (0,0)) (dr A2)):A3≠A6));replace A2:=aA.mk (aM (g:=A6) (o := .cells #[.int .i64 Ad,.string Af] 26 (0,0)) (dr A2) hb);clear hb hbox hg;have hnb44:=Ah.out;have hnc44:=Aa.out;have hnb45:=Ai.out;have hnc45:=Ab.out;have hcz46__:=gP A4;have hfz46__:=f_ A4))
     have n0_:aA (((w43.setCell ⟨A3,0,none⟩ (.int .i64 Ac)).setCell ⟨A3,1,none⟩ (.string Ae)).heap[A5]? = some (.cells #[.int .i64 a1_0,.string a1_1] 26 (0,0))):=⟨by (with_reducible repeat (first|refine aW ?_ _|refine aU ?_|refine aX ?_ _));refine eL ?_ Aa.out _;(with_reducible repeat (first|refine aW ?_ _|refine aU ?_|refine aX ?_ _));refine eL ?_ Aa.out _;(with_reducible repeat (first|refine aW ?_ _|refine aU ?_|refine aX ?_ _));exact A1.out⟩;have n1_:aA (((w43.setCell ⟨A3,0,none⟩ (.int .i64 Ac)).setCell ⟨A3,1,none⟩ (.string Ae)).heap[A6]? = some (.cells #[.int .i64 Ad,.string Af] 26 (0,0))):=⟨by (with_reducible repeat (first|refine aW ?_ _|refine aU ?_|refine aX ?_ _));refine eL ?_ Ab.out _;(with_reducible repeat (first|refine aW ?_ _|refine aU ?_|refine aX ?_ _));refine eL ?_ Ab.out _;(with_reducible repeat (first|refine aW ?_ _|refine aU ?_|refine aX ?_ _));exact A2.out⟩;have n2_:aA (((w43.setCell ⟨A3,0,none⟩ (.int .i64 Ac)).setCell ⟨A3,1,none⟩ (.string Ae)).heap[A3]? = some (.cells #[.int .i64 Ac,.string Ae] 26 (0,0))):=⟨by (with_reducible repeat (first|refine aW ?_ _|refine aU ?_|refine aX ?_ _));refine bU (cs:=#[.int .i64 Ac,.string (⟨#[]⟩:ByteArray)]) ?_ 1 _ rfl;(with_reducible repeat (first|refine aW ?_ _|refine aU ?_|refine aX ?_ _));refine bU (cs:=#[.int .i64 0,.string (⟨#[]⟩:ByteArray)]) ?_ 0 _ rfl;(with_reducible repeat (first|refine aW ?_ _|refine aU ?_|refine aX ?_ _));exact A4.out⟩;have n3_:aA (Below w.heap.size w ((w43.setCell ⟨A3,0,none⟩ (.int .i64 Ac)).setCell ⟨A3,1,none⟩ (.string Ae))):=⟨by exact tb HB⟩;(try clear A1);(try clear A2);(try clear A4);(try clear HB);generalize ((w43.setCell ⟨A3,0,none⟩ (.int .i64 Ac)).setCell ⟨A3,1,none⟩ (.string Ae))=w47 at n0_ n1_ n2_ n3_ ⊢;have A1:=n0_;have A2:=n1_;have A4:=n2_;have HB:=n3_;clear n0_ n1_ n2_ n3_;have n0_:=aA.mk (aU A1.out);have n1_:=aA.mk (aU A2.out);have n2_:=aA.mk (aU A4.out);have n3_:=aA.mk (bO HB.out);clear A1;clear A2;clear A4;clear HB;have A1:=n0_;have A2:=n1_;have A4:=n2_;have HB:=n3_;clear n0_ n1_ n2_ n3_;obtain ⟨i049,hi049,_,hsz49,_⟩:=info_parts iY;obtain ⟨A49,hcut49,hA49,hC49⟩:=fV (P:=Try.prog) Value.bool false 24 4 .i64 Try.underlying24 hi049 hsz49 A0 c0 l0 1 (by omega) (od) HC0.out;have HR110:=aA.mk (Kd.C_of_reads (h1:=fun _=>rfl) (hA49 _ (Kd.reads_of_C HR0.out)));have HC110:=aA.mk hC49;clear hA49 hC49 hi049 hsz49;obtain ⟨i050,hi050,_,hsz50,_⟩:=info_parts iY;obtain ⟨A50,hcut50,hA50,hC50⟩:=fV (P:=Try.prog) Value.bool false 24 4 .i64 Try.underlying24 hi050 hsz50 A0 c0 l0 1 (by omega) (od) HC0.out
     obtain rfl:A49=A50:=by have e_:=(hcut49 w).symm.trans (hcut50 w);injection e_ with e_;injection e_
     have HR112:=aA.mk (Kd.C_of_reads (h1:=fun _=>rfl) (hA50 _ (Kd.reads_of_C HR0.out)));have HC112:=aA.mk hC50;clear hA50 hC50 hi050 hsz50;refine fM (n:=10) (S:=fun w'=>w'.cell? ⟨A6,0,none⟩=some (.int .i64 Ad)∧w'.cell? ⟨A6,1,none⟩=some (.string Af)∧w'.cell? ⟨A3,0,none⟩=some (.int .i64 Ac)∧w'.cell? ⟨A3,1,none⟩=some (.string Ae)) (ds:=[]) (tf 0 10) (by kernel_rfl) rfl rfl ⟨(aY A2.out 0).trans rfl,(aY A2.out 1).trans rfl,(aY A4.out 0).trans rfl,(aY A4.out 1).trans rfl⟩ (fun hHeld=>?_);refine iJ cH.tab5 cH.bits5 (fun HT_ HW_=>?_);generalize w47.drew=w48 at A1 A2 A4 HB HR110 HR112 hHeld ⊢;refine hJ HT_ 0 29 (tf 1 9) ?_;refine hJ HT_ 1 30 (tf 2 8) ?_;refine hJ HT_ 4 33 #[true,true,false,false,true,false,false,false,false,false] ?_;refine hJ HT_ 5 34 #[true,true,false,false,true,true,false,false,false,false] ?_;refine vL HT_ HW_ 2 31 #[true,true,true,false,true,true,false,false,false,false] hHeld ?_;refine vL HT_ HW_ 6 35 #[true,true,true,false,true,true,true,false,false,false] hHeld ?_;refine gC (i:=3) (N:=some 32) (tf 7 3) rfl rfl (iD HT_.out (by kernel_rfl)) (by decide) (fun K hK=>?_);refine fQ Try.func108 (by kernel_rfl) rfl #[.slice A49 (l0.drop 1).length (c0 - 1),.agg #[.int .i64 Ad,.string Af]] (by rfl) rfl rfl (by (try simp only [List.map_toArray,List.map_cons,List.map_nil]);first|done|(rw [show (l0.drop 1).length=(l0.length - 1) from List.length_drop] <;> rfl)|rfl|(simp only [List.length_drop,List.length_take];rfl)) ?_
     with_reducible refine (ih k (by omega) _ _ (l0.drop 1) Ad Af Aj _ ?side1 ?side2 A11.out).mono ?_
     (case side1=>exact cw (Kd.C_below HR110.out HB.out))
     (case side2=>exact HC110.out)
     rintro e w51 ⟨rfl,hb⟩;refine ⟨_,rfl,?_⟩;have n0_:=aA.mk (aM (g:=A5) (o := .cells #[.int .i64 a1_0,.string a1_1] 26 (0,0)) (dr A1) hb);have n1_:=aA.mk (aM (g:=A6) (o := .cells #[.int .i64 Ad,.string Af] 26 (0,0)) (dr A2) hb);have n2_:=aA.mk (aM (g:=A3) (o := .cells #[.int .i64 Ac,.string Ae] 26 (0,0)) (dr A4) hb);have n3_:=aA.mk (aE (tb HB) hb);clear A1;clear A2;clear A4;clear HB;have A1:=n0_;have A2:=n1_;have A4:=n2_;have HB:=n3_;clear n0_ n1_ n2_ n3_;(try clear hb);(try clear hb2);(try clear hk);(try clear hi);refine hK.out _ _ ⟨(aY A2.out 0).trans rfl,(aY A2.out 1).trans rfl,(aY A4.out 0).trans rfl,(aY A4.out 1).trans rfl⟩ (fun hHeld=>?_);clear hK K;refine eG (a':=?_) ?_ ?_;rotate_left
     ·show Act.put _ (some 32) _=_
      simp only [Act.put,s1,s2,s3,aJ,aN];rfl
     refine gC (i:=7) (N:=some 36) (tf 8 2) rfl rfl (iD HT_.out (by kernel_rfl)) (by decide) (fun K hK=>?_);refine fQ Try.func108 (by kernel_rfl) rfl #[.slice A49 (l0.drop 1).length (c0 - 1),.agg #[.int .i64 Ac,.string Ae]] (by rfl) rfl rfl (by (try simp only [List.map_toArray,List.map_cons,List.map_nil]);first|done|(rw [show (l0.drop 1).length=(l0.length - 1) from List.length_drop] <;> rfl)|rfl|(simp only [List.length_drop,List.length_take];rfl)) ?_
     with_reducible refine (ih k (by omega) _ _ (l0.drop 1) Ac Ae Ak _ ?side1 ?side2 A13.out).mono ?_
     (case side1=>exact cw (Kd.C_below HR112.out HB.out))
     (case side2=>exact HC112.out)
     rintro e w52 ⟨rfl,hb⟩;refine ⟨_,rfl,?_⟩;have n0_:=aA.mk (aM (g:=A5) (o := .cells #[.int .i64 a1_0,.string a1_1] 26 (0,0)) (dr A1) hb);have n1_:=aA.mk (aM (g:=A6) (o := .cells #[.int .i64 Ad,.string Af] 26 (0,0)) (dr A2) hb);have n2_:=aA.mk (aM (g:=A3) (o := .cells #[.int .i64 Ac,.string Ae] 26 (0,0)) (dr A4) hb);have n3_:=aA.mk (aE (tb HB) hb);clear A1;clear A2;clear A4;clear HB;have A1:=n0_;have A2:=n1_;have A4:=n2_;have HB:=n3_;clear n0_ n1_ n2_ n3_;(try clear hb);(try clear hb2);(try clear hk);(try clear hi);refine hK.out _ _ ⟨(aY A2.out 0).trans rfl,(aY A2.out 1).trans rfl,(aY A4.out 0).trans rfl,(aY A4.out 1).trans rfl⟩ (fun hHeld=>?_);clear hK K;refine eG (a':=?_) ?_ ?_;rotate_left
     ·show Act.put _ (some 36) _=_
      simp only [Act.put,s1,s2,s3,aJ,aN];rfl
     refine hJ HT_ 8 9 (tf 9 1) ?_;refine hJ HT_ 9 10 (tf 10 0) ?_;refine iG (jS HT_.out (by kernel_rfl)) ?_;have p114:0≤(0:Int):=(by omega);have q114:0 < (l0.length:Int):=od;obtain ⟨ad114,e114,hx114_0⟩:=Kd.at_bool HR0.out 0 p114 q114
     (try rw [← Nbq15.out] at hx114_0)
     cases e114;have qi114:(0 < l0.length)=True:=eq_true (by omega)
     (try rw [show ((0:Int)).toNat=0 from rfl] at hx114_0)
     (try rw [Addr.add_zero'] at hx114_0)
     replace hx114_0:=ct HB hx114_0;replace p114:=eq_true p114;replace q114:=eq_true q114
     try go_wp2
     go_ret;exact ⟨by first|exact er|(simp [dM,dN,show ¬ l0=[] from by intro h_;rw [h_] at c14b0;simp at c14b0];done)|(simp [*,show ¬ l0=[] from by intro h_;rw [h_] at c14b0;simp at c14b0];done)|(simp [dM,dN,show ¬ l0=[] from by intro h_;rw [h_] at c14b0;simp at c14b0] <;> rfl),tb HB⟩
   ·rw [if_neg c14] at H;exact absurd H (by simp)
  ·rw [if_neg c10] at H;exact absurd H (by simp)
def dF.f (s0_0:List Int) (s0_1:Int) (s0_2:Int) (a1:Int):Option (Bool × Int × Int):=(bG.f s0_0 s0_1 s0_2 a1).bind fun bt101=>(some ((bt101.1 == 0),bt101.2.1,bt101.2.2))
theorem dF.calls (g:Nat) (s0_0:List Int) (s0_1:Int) (s0_2:Int) (a1:Int) (r1:Bool) (r2:Int) (r3:Int) (w0 w:World) (hI:bK w0 w g s0_0 s0_1 s0_2) (hB:Below w0.heap.size w0 w) (h:dF.f s0_0 s0_1 s0_2 a1=some (r1,r2,r3)) :
  Calls Try.prog 110 #[.pointer (some ⟨g,0,none⟩),.int .i64 a1] w fun e w'=>e = .returned (.bool r1)∧bK w0 w' g s0_0 r2 r3∧Below w0.heap.size w0 w'∧bI w w' g none:=by
 have HI0:=aA.mk hI;have HK:=aA.mk (bI.refl w g none);have HL:=aA.mk hB.size;clear hI;have HW0:=aA.mk hB.size;have HB:=aA.mk hB;clear hB;have H:((bG.f s0_0 s0_1 s0_2 a1).bind fun bt101=>(some ((bt101.1 == 0),bt101.2.1,bt101.2.2)))=some (r1,r2,r3):=h;clear h;replace H:=ob H;obtain ⟨⟨A0,A1,A2⟩,A30,H⟩:=H;replace H:(some ((A0 == 0),A1,A2))=some (r1,r2,r3):=H;have A3:=aA.mk A30;clear A30;simp only [Option.some.injEq,Prod.mk.injEq] at H;obtain ⟨rfl,rfl,rfl⟩:=H
 go_enter Try.func110,Try.ntmps110
 go_wp2_with (first|((with_reducible refine aD (f:=55) rfl ?_);refine aI (some 7) rfl rfl Try.func55 (by kernel_rfl) rfl #[.pointer (some ⟨g,0,none⟩),.int .i64 a1] rfl ml ?_;(with_reducible refine (bG.calls g s0_0 s0_1 s0_2 a1 A0 A1 A2 w0 _ ?side1 ?side2 A3.out).mono ?_);(case side1=>exact dJ HI0);(case side2=>exact dX HB HI0);rintro e w4 ⟨rfl,hi,hb,hk⟩;refine ⟨_,rfl,?_⟩;replace HK:=aA.mk (bI.trans (tp HK) hk (.inl rfl));replace HB:=aA.mk (hb);replace HI0:=aA.mk (hi);(try clear hb);(try clear hb2);(try clear hk);(try clear hi)));go_ret;exact ⟨er,dJ HI0,dX HB HI0,tp HK⟩
def cC.f (l0:List (bL)) (a1_0:Int) (a1_1:Int) (a1_2:Int) (a1_3:Int) (a1_4:Int) (a1_5:Int):Option ((List (bL)) × Int):=if l0.length < 2932031007402 then (some ((l0 ++ [(⟨a1_0,a1_1,a1_2,a1_3,a1_4,a1_5⟩:bL)]),(l0.length:Int))) else (none)
theorem cC.calls (P0_:Nat→Prop) (u9000_:Value) (l0:List (bL)) (a1_0:Int) (a1_1:Int) (a1_2:Int) (a1_3:Int) (a1_4:Int) (a1_5:Int) (r1:List (bL)) (r2:Int) (w0 w:World) (hB:Below w0.heap.size w0 w) (ho0:Kd.R fL 99 w w0.heap.size P0_ u9000_ l0) (h:cC.f l0 a1_0 a1_1 a1_2 a1_3 a1_4 a1_5=some (r1,r2)) :
  Calls Try.prog 145 #[u9000_,.agg #[.int .i64 a1_0,.int .i64 a1_1,.int .i64 a1_2,.int .i64 a1_3,.int .i64 a1_4,.int .i64 a1_5]] w fun e w'=>∃ v0_:Value,e = .returned (.tuple #[v0_,.int .i64 r2])∧Kd.R fL 99 w' w0.heap.size (fun k_=>(P0_ k_∨w.heap.size≤k_)) v0_ r1∧Below w0.heap.size w0 w'∧cW w w' (fun k_=>P0_ k_):=by
 unfold cC.f at h
 by_cases c3:l0.length < 2932031007402
 case neg=>rw [if_neg c3] at h;cases h
 rw [if_pos c3] at h;have LM:=aA.mk c3;clear c3
 obtain ⟨rfl,rfl⟩:l0 ++ [(⟨a1_0,a1_1,a1_2,a1_3,a1_4,a1_5⟩:bL)]=r1∧(l0.length:Int)=r2:=by injection h with h;injection h with h1 h2;exact ⟨h1,h2⟩
 have HO0:=aA.mk (show Kd.R fL 99 w w0.heap.size (fun k_=>(P0_ k_∨w.heap.size≤k_)) u9000_ l0 from Kd.R_mono ho0 (fun k_ hk=>(.inl hk)));have HB:=aA.mk hB;clear hB h ho0
 go_enter Try.func145,Try.ntmps145
 go_wp2_with (first|((with_reducible refine bF (N:=3) rfl ?_);refine bx (N:=3) (cs:=#[.int .i64 a1_0,.int .i64 a1_1,.int .i64 a1_2,.int .i64 a1_3,.int .i64 a1_4,.int .i64 a1_5]) (t:=99) ?_;intro gb hg w4 hbox hb;have HO1:=aA.mk (Kd.R_below (Kd.R_elderB HO0.out gb (Nat.le_of_eq hg.symm)) hb);have HK1:=aA.mk (cW.below (cW.refl w (fun k_=>P0_ k_)) hb);have HB1:=aA.mk (aE HB.out hb);have BK:=aA.mk hbox;clear hb hbox hg;obtain ⟨hz0,hz1,hz2,hz3,hz4,hz5⟩:=pP BK;have hzf:=zP BK;obtain ⟨Ao,co,eo⟩:=Kd.R_slice HO1.out;subst eo)|((with_reducible refine cD (b := .append) (xs:=#[.tmp 6,.tmp 8]) rfl ?_);at_builtin;refine Kd.R_append fL (w0:=w0) w0.heap.size rfl (.tmp 6) (.tmp 8) 54 99 (.agg #[(.int .i64 0),(.int .i64 0),(.int .i64 0),(.int .i64 0),(.int .i64 0),(.int .i64 0)]) 48 rfl Try.underlying54 jK rfl (by decide) (by omega) _ l0 (⟨a1_0,a1_1,a1_2,a1_3,a1_4,a1_5⟩:bL) [.int .i64 a1_0,.int .i64 a1_1,.int .i64 a1_2,.int .i64 a1_3,.int .i64 a1_4,.int .i64 a1_5] (fun k_=>(P0_ k_∨w.heap.size≤k_)∧k_≠gb) (fun _=>False) rfl rfl ?aP (fun _ hk=>hk.elim) ?aF ?aO ?aB ?aS ?aL ?_;(case aP=>exact gS _ _ _ (⟨a1_0,a1_1,a1_2,a1_3,a1_4,a1_5⟩:bL));(case aB=>exact (by repeat (first|(with_reducible first|exact HB1.out|apply bQ|apply bD|apply bO)|exact HB1.out)));(case aF=>exact (fun k_ hk=>⟨(.inr (Nat.le_trans HK1.out.1 hk)),Kd.freshB (g:=gb) BK.out k_ hk⟩));(case aO=>exact (ra HO1));(case aS=>exact (aG (by repeat (first|(with_reducible first|exact HB1.out|apply bQ|apply bD|apply bO)|exact HB1.out))));(case aL=>have:=LM.out;omega);intro v103 w6 ho hb hg hat;have HB2:=aA.mk hb;have HK2:=aA.mk (cW.of_grown (S:=(fun k_=>P0_ k_)) hg HK1.out (fun k_ e_=>(HO1.out.1 k_ e_).1));have HO2:=aA.mk ho;clear ho hb hg hat));go_ret2;exact ⟨_,by first|rfl|(simp;done),Kd.R_mono HO2.out (fun _ hk=>hk.1),HB2.out,cW.mono HK2.out (fun k hk=>by first|exact hk|(rcases hk with h|h;exact h))⟩
def kL.f (k:Nat) (a0:Int) (a1:Int) (a2:Int):Option (Int):=(bY.f k a0 a1 a2).bind fun A1=>(if A1=true then ((aH.f k a0).bind fun A0=>(if A0=0 then (none) else (some (Int.tmod (wrap64 (a1 + a2)) A0)))) else (some 0))
theorem kL.calls (k:Nat) (a0:Int) (a1:Int) (a2:Int) (r:Int) (w:World) (h:kL.f k a0 a1 a2=some r) :
  Calls Try.prog 153 #[.int .i64 a0,.int .i64 a1,.int .i64 a2] w fun e w'=>e = .returned (.int .i64 r)∧bW w w':=by
 have H:((bY.f k a0 a1 a2).bind fun A1=>(if A1=true then ((aH.f k a0).bind fun A0=>(if A0=0 then (none) else (some (Int.tmod (wrap64 (a1 + a2)) A0)))) else (some 0)))=some r:=h;clear h;replace H:=ob H;obtain ⟨A1,A40,H⟩:=H
 try dsimp only at H
 have A4:=aA.mk A40;clear A40
 by_cases c5:A1=true
 ·subst c5
  have H1:((aH.f k a0).bind fun A0=>(if A0=0 then (none) else (some (Int.tmod (wrap64 (a1 + a2)) A0))))=some r:=by rw [if_pos rfl] at H;exact H
  clear H;have H:=H1;clear H1;replace H:=ob H;obtain ⟨A0,A60,H⟩:=H;replace H:(if A0=0 then (none) else (some (Int.tmod (wrap64 (a1 + a2)) A0)))=some r:=H;have A6:=aA.mk A60;clear A60
  by_cases c7:A0=0
  ·rw [if_pos c7] at H;exact absurd H (by simp)
  ·rw [if_neg c7] at H;have c7b0:(A0 == 0)=false:=beq_eq_false_iff_ne.mpr c7;have c7b1:(A0 != 0)=true:=bne_iff_ne.mpr c7;obtain rfl:=os H
   go_enter Try.func153,Try.ntmps153
   go_wp2_with (first|((with_reducible refine aD (f:=177) rfl ?_);refine aI (some 10) rfl rfl Try.func177 (by kernel_rfl) rfl #[.int .i64 a0,.int .i64 a1,.int .i64 a2] rfl ml ?_;(with_reducible refine (bY.calls k a0 a1 a2 true _ A4.out).mono ?_);rintro e w' ⟨rfl,⟨nd,rfl⟩⟩;refine ⟨_,rfl,?_⟩)|((with_reducible refine aD (f:=70) rfl ?_);refine aI (some 16) rfl rfl Try.func70 (by kernel_rfl) rfl #[.int .i64 a0] rfl ml ?_;(with_reducible refine (aH.calls k a0 A0 _ A6.out).mono ?_);rintro e w' ⟨rfl,⟨nd,rfl⟩⟩;refine ⟨_,rfl,?_⟩));go_ret;exact ⟨e1,dn⟩
 ·replace c5:=Bool.eq_false_iff.mpr c5;subst c5
  have H1:(some 0)=some r:=by rw [if_neg (show ¬ (false=true) by decide)] at H;exact H
  clear H;have H:=H1;clear H1;obtain rfl:=os H
  go_enter Try.func153,Try.ntmps153
  go_wp2_with (first|((with_reducible refine aD (f:=177) rfl ?_);refine aI (some 10) rfl rfl Try.func177 (by kernel_rfl) rfl #[.int .i64 a0,.int .i64 a1,.int .i64 a2] rfl ml ?_;(with_reducible refine (bY.calls k a0 a1 a2 false _ A4.out).mono ?_);rintro e w' ⟨rfl,⟨nd,rfl⟩⟩;refine ⟨_,rfl,?_⟩));go_ret;exact ⟨e1,dn⟩
def kM.f (k:Nat) (a0:Int) (a1:Int) (a2:Int):Option (Int):=(bY.f k a0 a1 a2).bind fun A1=>(if A1=true then (if a2=0 then ((aH.f k a0).bind fun A0=>(some (wrap64 (A0 - 1)))) else (some (wrap64 (Int.tdiv a1 a2)))) else (some 0))
theorem kM.calls (k:Nat) (a0:Int) (a1:Int) (a2:Int) (r:Int) (w:World) (h:kM.f k a0 a1 a2=some r) :
  Calls Try.prog 156 #[.int .i64 a0,.int .i64 a1,.int .i64 a2] w fun e w'=>e = .returned (.int .i64 r)∧bW w w':=by
 have H:((bY.f k a0 a1 a2).bind fun A1=>(if A1=true then (if a2=0 then ((aH.f k a0).bind fun A0=>(some (wrap64 (A0 - 1)))) else (some (wrap64 (Int.tdiv a1 a2)))) else (some 0)))=some r:=h;clear h;replace H:=ob H;obtain ⟨A1,A40,H⟩:=H
 try dsimp only at H
 have A4:=aA.mk A40;clear A40
 by_cases c5:A1=true
 ·subst c5
  have H1:(if a2=0 then ((aH.f k a0).bind fun A0=>(some (wrap64 (A0 - 1)))) else (some (wrap64 (Int.tdiv a1 a2))))=some r:=by rw [if_pos rfl] at H;exact H
  clear H;have H:=H1;clear H1
  by_cases c6:a2=0
  ·rw [if_pos c6] at H;have c6b0:(a2 == 0)=true:=beq_iff_eq.mpr c6;have c6b1:(a2 != 0)=false:=bne_eq_false_iff_eq.mpr c6;clear c6;replace H:=ob H;obtain ⟨A0,A70,H⟩:=H;replace H:(some (wrap64 (A0 - 1)))=some r:=H;have A7:=aA.mk A70;clear A70;obtain rfl:=os H
   go_enter Try.func156,Try.ntmps156
   go_wp2_with (first|((with_reducible refine aD (f:=177) rfl ?_);refine aI (some 10) rfl rfl Try.func177 (by kernel_rfl) rfl #[.int .i64 a0,.int .i64 a1,.int .i64 a2] rfl ml ?_;(with_reducible refine (bY.calls k a0 a1 a2 true _ A4.out).mono ?_);rintro e w' ⟨rfl,⟨nd,rfl⟩⟩;refine ⟨_,rfl,?_⟩)|((with_reducible refine aD (f:=70) rfl ?_);refine aI (some 15) rfl rfl Try.func70 (by kernel_rfl) rfl #[.int .i64 a0] rfl ml ?_;(with_reducible refine (aH.calls k a0 A0 _ A7.out).mono ?_);rintro e w' ⟨rfl,⟨nd,rfl⟩⟩;refine ⟨_,rfl,?_⟩));go_ret;exact ⟨e1,dn⟩
  ·rw [if_neg c6] at H;have c6b0:(a2 == 0)=false:=beq_eq_false_iff_ne.mpr c6;have c6b1:(a2 != 0)=true:=bne_iff_ne.mpr c6;obtain rfl:=os H
   go_enter Try.func156,Try.ntmps156
   go_wp2_with (first|((with_reducible refine aD (f:=177) rfl ?_);refine aI (some 10) rfl rfl Try.func177 (by kernel_rfl) rfl #[.int .i64 a0,.int .i64 a1,.int .i64 a2] rfl ml ?_;(with_reducible refine (bY.calls k a0 a1 a2 true _ A4.out).mono ?_);rintro e w' ⟨rfl,⟨nd,rfl⟩⟩;refine ⟨_,rfl,?_⟩));go_ret;exact ⟨e1,dn⟩
 ·replace c5:=Bool.eq_false_iff.mpr c5;subst c5
  have H1:(some 0)=some r:=by rw [if_neg (show ¬ (false=true) by decide)] at H;exact H
  clear H;have H:=H1;clear H1;obtain rfl:=os H
  go_enter Try.func156,Try.ntmps156
  go_wp2_with (first|((with_reducible refine aD (f:=177) rfl ?_);refine aI (some 10) rfl rfl Try.func177 (by kernel_rfl) rfl #[.int .i64 a0,.int .i64 a1,.int .i64 a2] rfl ml ?_;(with_reducible refine (bY.calls k a0 a1 a2 false _ A4.out).mono ?_);rintro e w' ⟨rfl,⟨nd,rfl⟩⟩;refine ⟨_,rfl,?_⟩));go_ret;exact ⟨e1,dn⟩
def jH.f (k:Nat) (a0:Int) (a1:Int) (a2:Int):Option (Int):=(bY.f k a0 a1 a2).bind fun A2=>(if A2=true then ((cP.f (decide (a1 < a2))).bind fun A0=>(some A0)) else ((cP.f false).bind fun A1=>(some A1)))
theorem jH.calls (k:Nat) (a0:Int) (a1:Int) (a2:Int) (r:Int) (w:World) (h:jH.f k a0 a1 a2=some r) :
  Calls Try.prog 161 #[.int .i64 a0,.int .i64 a1,.int .i64 a2] w fun e w'=>e = .returned (.int .i64 r)∧bW w w':=by
 have H:((bY.f k a0 a1 a2).bind fun A2=>(if A2=true then ((cP.f (decide (a1 < a2))).bind fun A0=>(some A0)) else ((cP.f false).bind fun A1=>(some A1))))=some r:=h;clear h;replace H:=ob H;obtain ⟨A2,A40,H⟩:=H
 try dsimp only at H
 have A4:=aA.mk A40;clear A40
 by_cases c5:A2=true
 ·subst c5
  have H1:((cP.f (decide (a1 < a2))).bind fun A0=>(some A0))=some r:=by rw [if_pos rfl] at H;exact H
  clear H;have H:=H1;clear H1;replace H:=ob H;obtain ⟨A0,A60,H⟩:=H;replace H:(some A0)=some r:=H;have A6:=aA.mk A60;clear A60;obtain rfl:=os H
  go_enter Try.func161,Try.ntmps161
  go_wp2_with (first|((with_reducible refine aD (f:=177) rfl ?_);refine aI (some 10) rfl rfl Try.func177 (by kernel_rfl) rfl #[.int .i64 a0,.int .i64 a1,.int .i64 a2] rfl ml ?_;(with_reducible refine (bY.calls k a0 a1 a2 true _ A4.out).mono ?_);rintro e w' ⟨rfl,⟨nd,rfl⟩⟩;refine ⟨_,rfl,?_⟩)|((with_reducible refine aD (f:=160) rfl ?_);refine aI (some 16) rfl rfl Try.func160 (by kernel_rfl) rfl #[.bool (decide (a1 < a2))] rfl ml ?_;(with_reducible refine (cP.calls (decide (a1 < a2)) A0 _ A6.out).mono ?_);rintro e w' ⟨rfl,⟨nd,rfl⟩⟩;refine ⟨_,rfl,?_⟩));go_ret;exact ⟨e1,dn⟩
 ·replace c5:=Bool.eq_false_iff.mpr c5;subst c5
  have H1:((cP.f false).bind fun A1=>(some A1))=some r:=by rw [if_neg (show ¬ (false=true) by decide)] at H;exact H
  clear H;have H:=H1;clear H1;replace H:=ob H;obtain ⟨A1,A70,H⟩:=H;replace H:(some A1)=some r:=H;have A7:=aA.mk A70;clear A70;obtain rfl:=os H
  go_enter Try.func161,Try.ntmps161
  go_wp2_with (first|((with_reducible refine aD (f:=177) rfl ?_);refine aI (some 10) rfl rfl Try.func177 (by kernel_rfl) rfl #[.int .i64 a0,.int .i64 a1,.int .i64 a2] rfl ml ?_;(with_reducible refine (bY.calls k a0 a1 a2 false _ A4.out).mono ?_);rintro e w' ⟨rfl,⟨nd,rfl⟩⟩;refine ⟨_,rfl,?_⟩)|((with_reducible refine aD (f:=160) rfl ?_);refine aI (some 16) rfl rfl Try.func160 (by kernel_rfl) rfl #[.bool false] rfl ml ?_;(with_reducible refine (cP.calls false A1 _ A7.out).mono ?_);rintro e w' ⟨rfl,⟨nd,rfl⟩⟩;refine ⟨_,rfl,?_⟩));go_ret;exact ⟨e1,dn⟩
def fP.f (k:Nat) (a0:Int) (a1:Int) (a2:Int):Option (Int):=(bY.f k a0 a1 a2).bind fun A5=>(if A5=true then ((eR.f k a0 a1).bind fun A2=>((eR.f k a0 a2).bind fun A0=>((cP.f (decide (A2 < A0))).bind fun A1=>(some A1)))) else ((cP.f false).bind fun A3=>(some A3)))
theorem fP.calls (k:Nat) (a0:Int) (a1:Int) (a2:Int) (r:Int) (w:World) (h:fP.f k a0 a1 a2=some r) :
  Calls Try.prog 162 #[.int .i64 a0,.int .i64 a1,.int .i64 a2] w fun e w'=>e = .returned (.int .i64 r)∧bW w w':=by
 have H:((bY.f k a0 a1 a2).bind fun A5=>(if A5=true then ((eR.f k a0 a1).bind fun A2=>((eR.f k a0 a2).bind fun A0=>((cP.f (decide (A2 < A0))).bind fun A1=>(some A1)))) else ((cP.f false).bind fun A3=>(some A3))))=some r:=h;clear h;replace H:=ob H;obtain ⟨A5,A40,H⟩:=H
 try dsimp only at H
 have A4:=aA.mk A40;clear A40
 by_cases c5:A5=true
 ·subst c5
  have H1:((eR.f k a0 a1).bind fun A2=>((eR.f k a0 a2).bind fun A0=>((cP.f (decide (A2 < A0))).bind fun A1=>(some A1))))=some r:=by rw [if_pos rfl] at H;exact H
  clear H;have H:=H1;clear H1;replace H:=ob H;obtain ⟨A2,A60,H⟩:=H;replace H:((eR.f k a0 a2).bind fun A0=>((cP.f (decide (A2 < A0))).bind fun A1=>(some A1)))=some r:=H;have A6:=aA.mk A60;clear A60;replace H:=ob H;obtain ⟨A0,A70,H⟩:=H;replace H:((cP.f (decide (A2 < A0))).bind fun A1=>(some A1))=some r:=H;have A7:=aA.mk A70;clear A70;replace H:=ob H;obtain ⟨A1,A80,H⟩:=H;replace H:(some A1)=some r:=H;have A8:=aA.mk A80;clear A80;obtain rfl:=os H
  go_enter Try.func162,Try.ntmps162
  go_wp2_with (first|((with_reducible refine aD (f:=177) rfl ?_);refine aI (some 10) rfl rfl Try.func177 (by kernel_rfl) rfl #[.int .i64 a0,.int .i64 a1,.int .i64 a2] rfl ml ?_;(with_reducible refine (bY.calls k a0 a1 a2 true _ A4.out).mono ?_);rintro e w' ⟨rfl,⟨nd,rfl⟩⟩;refine ⟨_,rfl,?_⟩)|(go_at_call 178;(try simp only [aJ,aN]);(with_reducible refine (eR.calls k a0 a1 A2 _ A6.out).mono ?_);rintro e w' ⟨rfl,⟨nd,rfl⟩⟩)|(go_at_call 178;(try simp only [aJ,aN]);(with_reducible refine (eR.calls k a0 a2 A0 _ A7.out).mono ?_);rintro e w' ⟨rfl,⟨nd,rfl⟩⟩)|((with_reducible refine aD (f:=160) rfl ?_);refine aI (some 20) rfl rfl Try.func160 (by kernel_rfl) rfl #[.bool (decide (A2 < A0))] rfl ml ?_;(with_reducible refine (cP.calls (decide (A2 < A0)) A1 _ A8.out).mono ?_);rintro e w' ⟨rfl,⟨nd,rfl⟩⟩;refine ⟨_,rfl,?_⟩));go_ret;exact ⟨e1,dn⟩
 ·replace c5:=Bool.eq_false_iff.mpr c5;subst c5
  have H1:((cP.f false).bind fun A3=>(some A3))=some r:=by rw [if_neg (show ¬ (false=true) by decide)] at H;exact H
  clear H;have H:=H1;clear H1;replace H:=ob H;obtain ⟨A3,A90,H⟩:=H;replace H:(some A3)=some r:=H;have A9:=aA.mk A90;clear A90;obtain rfl:=os H
  go_enter Try.func162,Try.ntmps162
  go_wp2_with (first|((with_reducible refine aD (f:=177) rfl ?_);refine aI (some 10) rfl rfl Try.func177 (by kernel_rfl) rfl #[.int .i64 a0,.int .i64 a1,.int .i64 a2] rfl ml ?_;(with_reducible refine (bY.calls k a0 a1 a2 false _ A4.out).mono ?_);rintro e w' ⟨rfl,⟨nd,rfl⟩⟩;refine ⟨_,rfl,?_⟩)|((with_reducible refine aD (f:=160) rfl ?_);refine aI (some 20) rfl rfl Try.func160 (by kernel_rfl) rfl #[.bool false] rfl ml ?_;(with_reducible refine (cP.calls false A3 _ A9.out).mono ?_);rintro e w' ⟨rfl,⟨nd,rfl⟩⟩;refine ⟨_,rfl,?_⟩));go_ret;exact ⟨e1,dn⟩
def kN.f (k:Nat) (a0:Int) (a1:Int) (a2:Int):Option (Int):=(bY.f k a0 a1 a2).bind fun A1=>(if A1=true then ((aH.f k a0).bind fun A0=>(if A0=0 then (none) else (some (Int.tmod (wrap64 (a1 * a2)) A0)))) else (some 0))
theorem kN.calls (k:Nat) (a0:Int) (a1:Int) (a2:Int) (r:Int) (w:World) (h:kN.f k a0 a1 a2=some r) :
  Calls Try.prog 155 #[.int .i64 a0,.int .i64 a1,.int .i64 a2] w fun e w'=>e = .returned (.int .i64 r)∧bW w w':=by
 have H:((bY.f k a0 a1 a2).bind fun A1=>(if A1=true then ((aH.f k a0).bind fun A0=>(if A0=0 then (none) else (some (Int.tmod (wrap64 (a1 * a2)) A0)))) else (some 0)))=some r:=h;clear h;replace H:=ob H;obtain ⟨A1,A40,H⟩:=H
 try dsimp only at H
 have A4:=aA.mk A40;clear A40
 by_cases c5:A1=true
 ·subst c5
  have H1:((aH.f k a0).bind fun A0=>(if A0=0 then (none) else (some (Int.tmod (wrap64 (a1 * a2)) A0))))=some r:=by rw [if_pos rfl] at H;exact H
  clear H;have H:=H1;clear H1;replace H:=ob H;obtain ⟨A0,A60,H⟩:=H;replace H:(if A0=0 then (none) else (some (Int.tmod (wrap64 (a1 * a2)) A0)))=some r:=H;have A6:=aA.mk A60;clear A60
  by_cases c7:A0=0
  ·rw [if_pos c7] at H;exact absurd H (by simp)
  ·rw [if_neg c7] at H;have c7b0:(A0 == 0)=false:=beq_eq_false_iff_ne.mpr c7;have c7b1:(A0 != 0)=true:=bne_iff_ne.mpr c7;obtain rfl:=os H
   go_enter Try.func155,Try.ntmps155
   go_wp2_with (first|((with_reducible refine aD (f:=177) rfl ?_);refine aI (some 10) rfl rfl Try.func177 (by kernel_rfl) rfl #[.int .i64 a0,.int .i64 a1,.int .i64 a2] rfl ml ?_;(with_reducible refine (bY.calls k a0 a1 a2 true _ A4.out).mono ?_);rintro e w' ⟨rfl,⟨nd,rfl⟩⟩;refine ⟨_,rfl,?_⟩)|((with_reducible refine aD (f:=70) rfl ?_);refine aI (some 16) rfl rfl Try.func70 (by kernel_rfl) rfl #[.int .i64 a0] rfl ml ?_;(with_reducible refine (aH.calls k a0 A0 _ A6.out).mono ?_);rintro e w' ⟨rfl,⟨nd,rfl⟩⟩;refine ⟨_,rfl,?_⟩));go_ret;exact ⟨e1,dn⟩
 ·replace c5:=Bool.eq_false_iff.mpr c5;subst c5
  have H1:(some 0)=some r:=by rw [if_neg (show ¬ (false=true) by decide)] at H;exact H
  clear H;have H:=H1;clear H1;obtain rfl:=os H
  go_enter Try.func155,Try.ntmps155
  go_wp2_with (first|((with_reducible refine aD (f:=177) rfl ?_);refine aI (some 10) rfl rfl Try.func177 (by kernel_rfl) rfl #[.int .i64 a0,.int .i64 a1,.int .i64 a2] rfl ml ?_;(with_reducible refine (bY.calls k a0 a1 a2 false _ A4.out).mono ?_);rintro e w' ⟨rfl,⟨nd,rfl⟩⟩;refine ⟨_,rfl,?_⟩));go_ret;exact ⟨e1,dn⟩
def kO.f (k:Nat) (a0:Int) (a1:Int) (a2:Int):Option (Int):=(bY.f k a0 a1 a2).bind fun A0=>(if A0=true then (if a2=0 then (some a1) else (some (Int.tmod a1 a2))) else (some 0))
theorem kO.calls (k:Nat) (a0:Int) (a1:Int) (a2:Int) (r:Int) (w:World) (h:kO.f k a0 a1 a2=some r) :
  Calls Try.prog 157 #[.int .i64 a0,.int .i64 a1,.int .i64 a2] w fun e w'=>e = .returned (.int .i64 r)∧bW w w':=by
 have H:((bY.f k a0 a1 a2).bind fun A0=>(if A0=true then (if a2=0 then (some a1) else (some (Int.tmod a1 a2))) else (some 0)))=some r:=h;clear h;replace H:=ob H;obtain ⟨A0,A40,H⟩:=H;replace H:(if A0=true then (if a2=0 then (some a1) else (some (Int.tmod a1 a2))) else (some 0))=some r:=H;have A4:=aA.mk A40;clear A40
 by_cases c5:A0=true
 ·subst c5
  have H1:(if a2=0 then (some a1) else (some (Int.tmod a1 a2)))=some r:=by rw [if_pos rfl] at H;exact H
  clear H;have H:=H1;clear H1
  by_cases c6:a2=0
  ·rw [if_pos c6] at H;have c6b0:(a2 == 0)=true:=beq_iff_eq.mpr c6;have c6b1:(a2 != 0)=false:=bne_eq_false_iff_eq.mpr c6;clear c6;obtain rfl:=os H
   go_enter Try.func157,Try.ntmps157
   go_wp2_with (first|((with_reducible refine aD (f:=177) rfl ?_);refine aI (some 10) rfl rfl Try.func177 (by kernel_rfl) rfl #[.int .i64 a0,.int .i64 a1,.int .i64 a2] rfl ml ?_;(with_reducible refine (bY.calls k a0 a1 a2 true _ A4.out).mono ?_);rintro e w' ⟨rfl,⟨nd,rfl⟩⟩;refine ⟨_,rfl,?_⟩));go_ret;exact ⟨e1,dn⟩
  ·rw [if_neg c6] at H;have c6b0:(a2 == 0)=false:=beq_eq_false_iff_ne.mpr c6;have c6b1:(a2 != 0)=true:=bne_iff_ne.mpr c6;obtain rfl:=os H
   go_enter Try.func157,Try.ntmps157
   go_wp2_with (first|((with_reducible refine aD (f:=177) rfl ?_);refine aI (some 10) rfl rfl Try.func177 (by kernel_rfl) rfl #[.int .i64 a0,.int .i64 a1,.int .i64 a2] rfl ml ?_;(with_reducible refine (bY.calls k a0 a1 a2 true _ A4.out).mono ?_);rintro e w' ⟨rfl,⟨nd,rfl⟩⟩;refine ⟨_,rfl,?_⟩));go_ret;exact ⟨e1,dn⟩
 ·replace c5:=Bool.eq_false_iff.mpr c5;subst c5
  have H1:(some 0)=some r:=by rw [if_neg (show ¬ (false=true) by decide)] at H;exact H
  clear H;have H:=H1;clear H1;obtain rfl:=os H
  go_enter Try.func157,Try.ntmps157
  go_wp2_with (first|((with_reducible refine aD (f:=177) rfl ?_);refine aI (some 10) rfl rfl Try.func177 (by kernel_rfl) rfl #[.int .i64 a0,.int .i64 a1,.int .i64 a2] rfl ml ?_;(with_reducible refine (bY.calls k a0 a1 a2 false _ A4.out).mono ?_);rintro e w' ⟨rfl,⟨nd,rfl⟩⟩;refine ⟨_,rfl,?_⟩));go_ret;exact ⟨e1,dn⟩
def eK.j0:Nat→Int→Int→Int→Bool→Option (Int)
 | 0,_,_,_,_=>none
 | k + 1,x0,x1,x2,x16=>if x16=true then (some 0) else ((aH.f k x2).bind fun A1=>((aH.f k x0).bind fun A0=>(if A0=0 then (none) else (some (Int.tmod (wrap64 (x1 * A1)) A0)))))
def eK.f (k:Nat) (a0:Int) (a1:Int) (a2:Int):Option (Int):=(bY.f k a0 a1 a2).bind fun A3=>(if A3=true then (eK.j0 k a0 a1 a2 (decide (a2 ≥ a0))) else (eK.j0 k a0 a1 a2 true))
theorem eK.calls (k:Nat) (a0:Int) (a1:Int) (a2:Int) (r:Int) (w:World) (h:eK.f k a0 a1 a2=some r) :
  Calls Try.prog 158 #[.int .i64 a0,.int .i64 a1,.int .i64 a2] w fun e w'=>e = .returned (.int .i64 r)∧bW w w':=by
 have H:((bY.f k a0 a1 a2).bind fun A3=>(if A3=true then (eK.j0 k a0 a1 a2 (decide (a2 ≥ a0))) else (eK.j0 k a0 a1 a2 true)))=some r:=h;clear h;have HC4:=aA.mk H;clear H
 go_enter Try.func158,Try.ntmps158
 go_upto_region 1 with (fail)
 go_cut [16] (fun v16 wc=>∃ (kq:Nat) (A2:Bool),v16 = .bool A2∧aA (eK.j0 kq a0 a1 a2 A2=some r)∧aA (kq≤k)∧bW w wc)
 case first =>
  have H:=HC4.out;clear HC4;replace H:=ob H;obtain ⟨A3,A50,H⟩:=H;replace H:(if A3=true then (eK.j0 k a0 a1 a2 (decide (a2 ≥ a0))) else (eK.j0 k a0 a1 a2 true))=some r:=H;have A5:=aA.mk A50;clear A50
  by_cases c6:A3=true
  ·subst c6
   have H1:(eK.j0 k a0 a1 a2 (decide (a2 ≥ a0)))=some r:=by rw [if_pos rfl] at H;exact H
   clear H;have H:=H1;clear H1;have H':=aA.mk H;clear H;go_wp2_with (first|((with_reducible refine aD (f:=177) rfl ?_);refine aI (some 10) rfl rfl Try.func177 (by kernel_rfl) rfl #[.int .i64 a0,.int .i64 a1,.int .i64 a2] rfl ml ?_;(with_reducible refine (bY.calls k a0 a1 a2 true _ A5.out).mono ?_);rintro e w' ⟨rfl,⟨nd,rfl⟩⟩;refine ⟨_,rfl,?_⟩));go_meet
   case rel=>exact ⟨_,(decide (a2 ≥ a0)),(by first|rfl|(simp;done)|(simp [*];done)),H',⟨by first|omega|exact Nat.le_refl _⟩,by repeat (first|exact bW.refl _|apply bW.step)⟩
  ·replace c6:=Bool.eq_false_iff.mpr c6;subst c6
   have H1:(eK.j0 k a0 a1 a2 true)=some r:=by rw [if_neg (show ¬ (false=true) by decide)] at H;exact H
   clear H;have H:=H1;clear H1;have H':=aA.mk H;clear H;go_wp2_with (first|((with_reducible refine aD (f:=177) rfl ?_);refine aI (some 10) rfl rfl Try.func177 (by kernel_rfl) rfl #[.int .i64 a0,.int .i64 a1,.int .i64 a2] rfl ml ?_;(with_reducible refine (bY.calls k a0 a1 a2 false _ A5.out).mono ?_);rintro e w' ⟨rfl,⟨nd,rfl⟩⟩;refine ⟨_,rfl,?_⟩));go_meet
   case rel=>exact ⟨_,(true),(by first|rfl|(simp;done)|(simp [*];done)),H',⟨by first|omega|exact Nat.le_refl _⟩,by repeat (first|exact bW.refl _|apply bW.step)⟩
 case rest =>
  clear HC4;obtain ⟨kq,A2,rfl,HA,HJ3,⟨mc3,rfl⟩⟩:=hcut
  cases kq with
  | zero=>exact absurd HA.out (by simp [eK.j0])
  | succ kj3 =>
   have H:=HA.out;clear HA;simp only [eK.j0] at H
   by_cases c7:A2=true
   ·subst c7
    have H1:(some 0)=some r:=by rw [if_pos rfl] at H;exact H
    clear H;have H:=H1;clear H1;obtain rfl:=os H;go_wp2;go_ret;exact ⟨e1,dn⟩
   ·replace c7:=Bool.eq_false_iff.mpr c7;subst c7
    have H1:((aH.f kj3 a2).bind fun A1=>((aH.f kj3 a0).bind fun A0=>(if A0=0 then (none) else (some (Int.tmod (wrap64 (a1 * A1)) A0)))))=some r:=by rw [if_neg (show ¬ (false=true) by decide)] at H;exact H
    clear H;have H:=H1;clear H1;replace H:=ob H;obtain ⟨A1,A80,H⟩:=H;replace H:((aH.f kj3 a0).bind fun A0=>(if A0=0 then (none) else (some (Int.tmod (wrap64 (a1 * A1)) A0))))=some r:=H;have A8:=aA.mk A80;clear A80;replace H:=ob H;obtain ⟨A0,A90,H⟩:=H;replace H:(if A0=0 then (none) else (some (Int.tmod (wrap64 (a1 * A1)) A0)))=some r:=H;have A9:=aA.mk A90;clear A90
    by_cases c10:A0=0
    ·rw [if_pos c10] at H;exact absurd H (by simp)
    ·rw [if_neg c10] at H;have c10b0:(A0 == 0)=false:=beq_eq_false_iff_ne.mpr c10;have c10b1:(A0 != 0)=true:=bne_iff_ne.mpr c10;obtain rfl:=os H;go_wp2_with (first|((with_reducible refine aD (f:=70) rfl ?_);refine aI (some 19) rfl rfl Try.func70 (by kernel_rfl) rfl #[.int .i64 a2] rfl ml ?_;(with_reducible refine (aH.calls kj3 a2 A1 _ A8.out).mono ?_);rintro e w' ⟨rfl,⟨nd,rfl⟩⟩;refine ⟨_,rfl,?_⟩)|((with_reducible refine aD (f:=70) rfl ?_);refine aI (some 22) rfl rfl Try.func70 (by kernel_rfl) rfl #[.int .i64 a0] rfl ml ?_;(with_reducible refine (aH.calls kj3 a0 A0 _ A9.out).mono ?_);rintro e w' ⟨rfl,⟨nd,rfl⟩⟩;refine ⟨_,rfl,?_⟩));go_ret;exact ⟨e1,dn⟩
def kP.f (k:Nat) (a0:Int) (a1:Int) (a2:Int):Option (Int):=(bY.f k a0 a1 a2).bind fun A1=>(if A1=true then (if a2 ≥ a0 then (some 0) else ((aH.f k a2).bind fun A0=>(if A0=0 then (none) else (some (wrap64 (Int.tdiv a1 A0)))))) else (some 0))
theorem kP.calls (k:Nat) (a0:Int) (a1:Int) (a2:Int) (r:Int) (w:World) (h:kP.f k a0 a1 a2=some r) :
  Calls Try.prog 159 #[.int .i64 a0,.int .i64 a1,.int .i64 a2] w fun e w'=>e = .returned (.int .i64 r)∧bW w w':=by
 have H:((bY.f k a0 a1 a2).bind fun A1=>(if A1=true then (if a2 ≥ a0 then (some 0) else ((aH.f k a2).bind fun A0=>(if A0=0 then (none) else (some (wrap64 (Int.tdiv a1 A0)))))) else (some 0)))=some r:=h;clear h;replace H:=ob H;obtain ⟨A1,A40,H⟩:=H
 try dsimp only at H
 have A4:=aA.mk A40;clear A40
 by_cases c5:A1=true
 ·subst c5
  have H1:(if a2 ≥ a0 then (some 0) else ((aH.f k a2).bind fun A0=>(if A0=0 then (none) else (some (wrap64 (Int.tdiv a1 A0))))))=some r:=by rw [if_pos rfl] at H;exact H
  clear H;have H:=H1;clear H1
  by_cases c6:a2 ≥ a0
  ·rw [if_pos c6] at H;have c6b0:decide (a0≤a2)=true:=decide_eq_true c6;clear c6;obtain rfl:=os H
   go_enter Try.func159,Try.ntmps159
   go_wp2_with (first|((with_reducible refine aD (f:=177) rfl ?_);refine aI (some 10) rfl rfl Try.func177 (by kernel_rfl) rfl #[.int .i64 a0,.int .i64 a1,.int .i64 a2] rfl ml ?_;(with_reducible refine (bY.calls k a0 a1 a2 true _ A4.out).mono ?_);rintro e w' ⟨rfl,⟨nd,rfl⟩⟩;refine ⟨_,rfl,?_⟩));go_ret;exact ⟨e1,dn⟩
  ·rw [if_neg c6] at H;have c6b0:decide (a0≤a2)=false:=decide_eq_false c6;clear c6;replace H:=ob H;obtain ⟨A0,A70,H⟩:=H;replace H:(if A0=0 then (none) else (some (wrap64 (Int.tdiv a1 A0))))=some r:=H;have A7:=aA.mk A70;clear A70
   by_cases c8:A0=0
   ·rw [if_pos c8] at H;exact absurd H (by simp)
   ·rw [if_neg c8] at H;have c8b0:(A0 == 0)=false:=beq_eq_false_iff_ne.mpr c8;have c8b1:(A0 != 0)=true:=bne_iff_ne.mpr c8;obtain rfl:=os H
    go_enter Try.func159,Try.ntmps159
    go_wp2_with (first|((with_reducible refine aD (f:=177) rfl ?_);refine aI (some 10) rfl rfl Try.func177 (by kernel_rfl) rfl #[.int .i64 a0,.int .i64 a1,.int .i64 a2] rfl ml ?_;(with_reducible refine (bY.calls k a0 a1 a2 true _ A4.out).mono ?_);rintro e w' ⟨rfl,⟨nd,rfl⟩⟩;refine ⟨_,rfl,?_⟩)|((with_reducible refine aD (f:=70) rfl ?_);refine aI (some 19) rfl rfl Try.func70 (by kernel_rfl) rfl #[.int .i64 a2] rfl ml ?_;(with_reducible refine (aH.calls k a2 A0 _ A7.out).mono ?_);rintro e w' ⟨rfl,⟨nd,rfl⟩⟩;refine ⟨_,rfl,?_⟩));go_ret;exact ⟨e1,dn⟩
 ·replace c5:=Bool.eq_false_iff.mpr c5;subst c5
  have H1:(some 0)=some r:=by rw [if_neg (show ¬ (false=true) by decide)] at H;exact H
  clear H;have H:=H1;clear H1;obtain rfl:=os H
  go_enter Try.func159,Try.ntmps159
  go_wp2_with (first|((with_reducible refine aD (f:=177) rfl ?_);refine aI (some 10) rfl rfl Try.func177 (by kernel_rfl) rfl #[.int .i64 a0,.int .i64 a1,.int .i64 a2] rfl ml ?_;(with_reducible refine (bY.calls k a0 a1 a2 false _ A4.out).mono ?_);rintro e w' ⟨rfl,⟨nd,rfl⟩⟩;refine ⟨_,rfl,?_⟩));go_ret;exact ⟨e1,dn⟩
end Go.Proofs.Ythipjoioicmcnaa.G
