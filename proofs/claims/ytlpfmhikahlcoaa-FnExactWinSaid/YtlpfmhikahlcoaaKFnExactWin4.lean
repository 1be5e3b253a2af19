-- texts of this session, merged by a program of it (wip/gen/pack.py)
import Derived.Test.YtlpfmhikahlcoaaKFnExactWin2
import Derived.Maps.OwnOps
import Derived.Maps.OwnSet
import Derived.Maps.Views
import Derived.DeepKeys4
import Derived.StringKeys
import Derived.Deep.Draws
import Derived.Below
import Derived.RowKit
import Derived.Test.YtlpfmhikahlcoaaKFnExactWin1
namespace Go.Proofs.Ytlpfmhikahlcoaa.G
open Go.Proofs.Ytlpfmhikahlcoaa.Sh
open Go.RowKit Go.Proofs.YtlpfmhikahlcoaaW.PrintWords Go.Proofs.YtlpfmhikahlcoaaW.PrintLast Go.Proofs.YtlpfmhikahlcoaaW.PrintMore
attribute [local go_sem] max2_int min2_int max_two min_two max_three min_three max_four min_four
set_option linter.unusedVariables false
set_option linter.unusedSimpArgs false
def laws_eqIntS.l0:Nat→List Int→List Int→Int→Option (Bool)
 | 0,_,_,_=>none
 | k + 1,x0,x1,x5=>if x5 < (x0.length:Int) then (if 0≤x5 then (if x5 < (x1.length:Int) then (if (rd x0 x5)=(rd x1 x5) then (laws_eqIntS.l0 k x0 x1 (wrap64 (x5 + 1))) else (some false)) else (none)) else (none)) else (some true)
def laws_eqIntS.f (k:Nat) (l0:List Int) (l1:List Int):Option (Bool):=if (l0.length:Int)=(l1.length:Int) then (laws_eqIntS.l0 k l0 l1 0) else (some false)
set_option maxHeartbeats 8000000 in
set_option maxRecDepth 100000 in
theorem laws_eqIntS.calls (k:Nat) (A0:Option Addr) (c0:Nat) (l0:List Int) (A1:Option Addr) (c1:Nat) (l1:List Int) (r:Bool) (w:World) (hr0:Kd.C (Kd.int .i64) w A0 l0.length l0) (hc0:l0.length≤c0) (hr1:Kd.C (Kd.int .i64) w A1 l1.length l1) (hc1:l1.length≤c1) (h:laws_eqIntS.f k l0 l1=some r) :
  Calls Try.prog 65 #[.slice A0 l0.length c0,.slice A1 l1.length c1] w fun e w'=>e = .returned (.bool r)∧Drawn0 w w':=by
 have HR0:=Aside0.mk hr0;have HC0:=Aside0.mk hc0;clear hr0 hc0;have HR1:=Aside0.mk hr1;have HC1:=Aside0.mk hc1;clear hr1 hc1;have H:(if (l0.length:Int)=(l1.length:Int) then (laws_eqIntS.l0 k l0 l1 0) else (some false))=some r:=h;clear h
 by_cases c3:(l0.length:Int)=(l1.length:Int)
 ·rw [if_pos c3] at H;have c3b0:((l0.length:Int) == (l1.length:Int))=true:=beq_iff_eq.mpr c3;have c3b1:((l0.length:Int) != (l1.length:Int))=false:=bne_eq_false_iff_eq.mpr c3
  have c3b2:(l0.length == l1.length)=true:=by first|simpa using c3|(simp at c3 ⊢;omega)
  clear c3;have H':=Aside0.mk H;clear H
  go_enter Try.func65,Try.ntmps65
  go_wp2
  repeat (go_quiet (fail);try go_wp2)
  go_loopg [5] k (fun kq v5 w'=>∃ (A2:Int),v5 = .int .i64 A2∧Aside0 (laws_eqIntS.l0 kq l0 l1 A2=some r)∧Aside0 (kq≤k)∧Drawn0 w w')
  case atStart=>exact ⟨(0),(by first|rfl|(simp;done)|(simp [*];done)),H',⟨Nat.le_refl _⟩,by repeat (first|exact Drawn0.refl _|apply Drawn0.step)⟩
  case round =>
   clear H';(try clear c1);(try clear p2);(try clear c3);(try clear c3b0);(try clear c3b1);(try clear c3b2);obtain ⟨A2,rfl,HA,HK1,⟨m1,rfl⟩⟩:=hrel
   cases gk with
   | zero=>exact absurd HA.out (by simp [laws_eqIntS.l0])
   | succ k1 =>
    have H:=HA.out;clear HA;simp only [laws_eqIntS.l0] at H
    by_cases c4:A2 < (l0.length:Int)
    ·rw [if_pos c4] at H;have c4b0:decide (A2 < (l0.length:Int))=true:=decide_eq_true c4;clear c4
     by_cases c5:0≤A2
     ·rw [if_pos c5] at H;have c5b0:decide (0≤A2)=true:=decide_eq_true c5;clear c5
      by_cases c6:A2 < (l1.length:Int)
      ·rw [if_pos c6] at H;have c6b0:decide (A2 < (l1.length:Int))=true:=decide_eq_true c6;clear c6
       by_cases c7:(rd l0 A2)=(rd l1 A2)
       ·rw [if_pos c7] at H;have c7b0:((rd l0 A2) == (rd l1 A2))=true:=beq_iff_eq.mpr c7;have c7b1:((rd l0 A2) != (rd l1 A2))=false:=bne_eq_false_iff_eq.mpr c7;clear c7;have H':=Aside0.mk H;clear H;have p101:0≤(A2:Int):=od;have q101:A2 < (l0.length:Int):=od;obtain ⟨ad101,e101,hx101_0⟩:=Kd.at_int HR0.out A2 p101 q101;cases e101;replace p101:=eq_true p101;replace q101:=eq_true q101;have p102:0≤(A2:Int):=od;have q102:A2 < (l1.length:Int):=od;obtain ⟨ad102,e102,hx102_0⟩:=Kd.at_int HR1.out A2 p102 q102;cases e102;replace p102:=eq_true p102;replace q102:=eq_true q102;go_wp2
        repeat (go_quiet (fail);try go_wp2)
        go_roundg k1
        case measure=>have:=HK1.out;omega
        case rel=>exact ⟨(wrap64 (A2 + 1)),(by first|rfl|(simp;done)|(simp [*];done)),H',⟨by have:=HK1.out;omega⟩,by repeat (first|exact Drawn0.refl _|apply Drawn0.step)⟩
       ·rw [if_neg c7] at H;have c7b0:((rd l0 A2) == (rd l1 A2))=false:=beq_eq_false_iff_ne.mpr c7;have c7b1:((rd l0 A2) != (rd l1 A2))=true:=bne_iff_ne.mpr c7;obtain rfl:=os H;have p101:0≤(A2:Int):=od;have q101:A2 < (l0.length:Int):=od;obtain ⟨ad101,e101,hx101_0⟩:=Kd.at_int HR0.out A2 p101 q101;cases e101;replace p101:=eq_true p101;replace q101:=eq_true q101;have p102:0≤(A2:Int):=od;have q102:A2 < (l1.length:Int):=od;obtain ⟨ad102,e102,hx102_0⟩:=Kd.at_int HR1.out A2 p102 q102;cases e102;replace p102:=eq_true p102;replace q102:=eq_true q102;go_wp2
        repeat (go_quiet (fail);try go_wp2)
        go_ret;exact ⟨e1,dn⟩
      ·rw [if_neg c6] at H;exact absurd H (by simp)
     ·rw [if_neg c5] at H;exact absurd H (by simp)
    ·rw [if_neg c4] at H;have c4b0:decide (A2 < (l0.length:Int))=false:=decide_eq_false c4;clear c4;obtain rfl:=os H;go_wp2
     repeat (go_quiet (fail);try go_wp2)
     go_ret;exact ⟨e1,dn⟩
 ·rw [if_neg c3] at H;have c3b0:((l0.length:Int) == (l1.length:Int))=false:=beq_eq_false_iff_ne.mpr c3;have c3b1:((l0.length:Int) != (l1.length:Int))=true:=bne_iff_ne.mpr c3
  have c3b2:(l0.length == l1.length)=false:=by first|simpa using c3|(simp at c3 ⊢;omega)
  obtain rfl:=os H
  go_enter Try.func65,Try.ntmps65
  go_wp2
  repeat (go_quiet (fail);try go_wp2)
  go_ret;exact ⟨e1,dn⟩
def laws_eqPick.f (k:Nat) (A2:List Int) (A4:Int) (l1_0:List Int) (a1_1:Int):Option (Bool):=(laws_eqIntS.f k A2 l1_0).bind fun Ab=>(if Ab=true then (if A4=a1_1 then (some true) else (some false)) else (some false))
set_option maxHeartbeats 8000000 in
set_option maxRecDepth 100000 in
theorem laws_eqPick.calls (k:Nat) (A8:Option Addr) (A9:Nat) (A2:List Int) (A4:Int) (A1_0:Option Addr) (c1_0:Nat) (l1_0:List Int) (a1_1:Int) (r:Bool) (w:World) (hr0_0:Kd.C (Kd.int .i64) w A8 A2.length A2) (hc0_0:A2.length≤A9) (hr1_0:Kd.C (Kd.int .i64) w A1_0 l1_0.length l1_0) (hc1_0:l1_0.length≤c1_0) (h:laws_eqPick.f k A2 A4 l1_0 a1_1=some r) :
  Calls Try.prog 92 #[.agg #[.slice A8 A2.length A9,.int .i64 A4],.agg #[.slice A1_0 l1_0.length c1_0,.int .i64 a1_1]] w fun e w'=>e = .returned (.bool r)∧Below w.heap.size w w':=by
 have hu108:=Try.underlying108;have Ac:=Aside0.mk hr0_0;have Ad:=Aside0.mk hc0_0;clear hr0_0 hc0_0;have HR1_0:=Aside0.mk hr1_0;have HC1_0:=Aside0.mk hc1_0;clear hr1_0 hc1_0;have HB:=Aside0.mk (Below.refl w.heap.size w);have H:((laws_eqIntS.f k A2 l1_0).bind fun Ab=>(if Ab=true then (if A4=a1_1 then (some true) else (some false)) else (some false)))=some r:=h;clear h;replace H:=ob H;obtain ⟨Ab,A30,H⟩:=H;replace H:(if Ab=true then (if A4=a1_1 then (some true) else (some false)) else (some false))=some r:=H;have A3:=Aside0.mk A30;clear A30
 by_cases c4:Ab=true
 ·subst c4
  have H1:(if A4=a1_1 then (some true) else (some false))=some r:=by rw [if_pos rfl] at H;exact H
  clear H;have H:=H1;clear H1
  by_cases c5:A4=a1_1
  ·rw [if_pos c5] at H;have c5b0:(A4 == a1_1)=true:=beq_iff_eq.mpr c5;have c5b1:(A4 != a1_1)=false:=bne_eq_false_iff_eq.mpr c5;clear c5;obtain rfl:=os H
   go_enter Try.func92,Try.ntmps92
   go_wp2_with (first|((with_reducible refine gate_dst (N:=2) rfl ?_);refine bx (N:=2) (cs:=#[.slice A8 A2.length A9,.int .i64 A4]) (t:=108) ?_;intro A0 hg w6 hbox hb;have A1:=Aside0.mk (hbox);have Ae:=Aside0.mk ((by rw [hg];exact (below_size (tb HB)):w.heap.size≤A0));have Af:=Aside0.mk ((by rw [hg];exact (below_size (tb HB)):w.heap.size≤A0));replace HB:=Aside0.mk (below_step (tb HB) hb);clear hb hbox hg)|((with_reducible refine gate_dst (N:=3) rfl ?_);refine bx (N:=3) (cs:=#[.slice A1_0 l1_0.length c1_0,.int .i64 a1_1]) (t:=108) ?_;intro A5 hg w7 hbox hb;have Aa:=Aside0.mk (hbox);have Ag:=Aside0.mk ((by rw [hg];exact (below_size (tb HB)):w.heap.size≤A5));have Ah:=Aside0.mk ((by rw [hg];exact (below_size (tb HB)):w.heap.size≤A5));replace HB:=Aside0.mk (below_step (tb HB) hb);have A6:=Aside0.mk ((by rw [hg];exact Nat.ne_of_lt (blk_lt (g:=A0) (o := .cells #[.slice A8 A2.length A9,.int .i64 A4] 108 (0,0)) (dr A1)):A0≠A5));have A7:=Aside0.mk ((by rw [hg];exact Nat.ne_of_gt (blk_lt (g:=A0) (o := .cells #[.slice A8 A2.length A9,.int .i64 A4] 108 (0,0)) (dr A1)):A5≠A0));replace A1:=Aside0.mk (blk_below (g:=A0) (o := .cells #[.slice A8 A2.length A9,.int .i64 A4] 108 (0,0)) (dr A1) hb);clear hb hbox hg;have hnb8:=A6.out;have hnc8:=A7.out;have hcz9__:=c2_ A1;have hfz9__:=f_ A1;have hcz10__:=c2_ Aa;have hfz10__:=f_ Aa)|((with_reducible refine gate_callee (f:=65) rfl ?_);refine goesL_ (some 9) rfl rfl Try.func65 (by kernel_rfl) rfl #[.slice A8 A2.length A9,.slice A1_0 l1_0.length c1_0] rfl ml ?_;(with_reducible refine (laws_eqIntS.calls k _ _ A2 _ _ l1_0 true _ ?side1 ?side2 ?side3 ?side4 A3.out).mono ?_);(case side1=>exact cw (Kd.C_below Ac.out HB.out));(case side2=>exact Ad.out);(case side3=>exact cw (Kd.C_below HR1_0.out HB.out));(case side4=>exact HC1_0.out);rintro e w' ⟨rfl,⟨nd,rfl⟩⟩;refine ⟨_,rfl,?_⟩));go_ret;exact ⟨er,tb HB⟩
  ·rw [if_neg c5] at H;have c5b0:(A4 == a1_1)=false:=beq_eq_false_iff_ne.mpr c5;have c5b1:(A4 != a1_1)=true:=bne_iff_ne.mpr c5;obtain rfl:=os H
   go_enter Try.func92,Try.ntmps92
   go_wp2_with (first|((with_reducible refine gate_dst (N:=2) rfl ?_);refine bx (N:=2) (cs:=#[.slice A8 A2.length A9,.int .i64 A4]) (t:=108) ?_;intro A0 hg w11 hbox hb;have A1:=Aside0.mk (hbox);have Ae:=Aside0.mk ((by rw [hg];exact (below_size (tb HB)):w.heap.size≤A0));have Af:=Aside0.mk ((by rw [hg];exact (below_size (tb HB)):w.heap.size≤A0));replace HB:=Aside0.mk (below_step (tb HB) hb);clear hb hbox hg)|((with_reducible refine gate_dst (N:=3) rfl ?_);refine bx (N:=3) (cs:=#[.slice A1_0 l1_0.length c1_0,.int .i64 a1_1]) (t:=108) ?_;intro A5 hg w12 hbox hb;have Aa:=Aside0.mk (hbox);have Ag:=Aside0.mk ((by rw [hg];exact (below_size (tb HB)):w.heap.size≤A5));have Ah:=Aside0.mk ((by rw [hg];exact (below_size (tb HB)):w.heap.size≤A5));replace HB:=Aside0.mk (below_step (tb HB) hb);have A6:=Aside0.mk ((by rw [hg];exact Nat.ne_of_lt (blk_lt (g:=A0) (o := .cells #[.slice A8 A2.length A9,.int .i64 A4] 108 (0,0)) (dr A1)):A0≠A5));have A7:=Aside0.mk ((by rw [hg];exact Nat.ne_of_gt (blk_lt (g:=A0) (o := .cells #[.slice A8 A2.length A9,.int .i64 A4] 108 (0,0)) (dr A1)):A5≠A0));replace A1:=Aside0.mk (blk_below (g:=A0) (o := .cells #[.slice A8 A2.length A9,.int .i64 A4] 108 (0,0)) (dr A1) hb);clear hb hbox hg;have hnb13:=A6.out;have hnc13:=A7.out;have hcz14__:=c2_ A1;have hfz14__:=f_ A1;have hcz15__:=c2_ Aa;have hfz15__:=f_ Aa)|((with_reducible refine gate_callee (f:=65) rfl ?_);refine goesL_ (some 9) rfl rfl Try.func65 (by kernel_rfl) rfl #[.slice A8 A2.length A9,.slice A1_0 l1_0.length c1_0] rfl ml ?_;(with_reducible refine (laws_eqIntS.calls k _ _ A2 _ _ l1_0 true _ ?side1 ?side2 ?side3 ?side4 A3.out).mono ?_);(case side1=>exact cw (Kd.C_below Ac.out HB.out));(case side2=>exact Ad.out);(case side3=>exact cw (Kd.C_below HR1_0.out HB.out));(case side4=>exact HC1_0.out);rintro e w' ⟨rfl,⟨nd,rfl⟩⟩;refine ⟨_,rfl,?_⟩));go_ret;exact ⟨er,tb HB⟩
 ·replace c4:=Bool.eq_false_iff.mpr c4;subst c4
  have H1:(some false)=some r:=by rw [if_neg (show ¬ (false=true) by decide)] at H;exact H
  clear H;have H:=H1;clear H1;obtain rfl:=os H
  go_enter Try.func92,Try.ntmps92
  go_wp2_with (first|((with_reducible refine gate_dst (N:=2) rfl ?_);refine bx (N:=2) (cs:=#[.slice A8 A2.length A9,.int .i64 A4]) (t:=108) ?_;intro A0 hg w16 hbox hb;have A1:=Aside0.mk (hbox);have Ae:=Aside0.mk ((by rw [hg];exact (below_size (tb HB)):w.heap.size≤A0));have Af:=Aside0.mk ((by rw [hg];exact (below_size (tb HB)):w.heap.size≤A0));replace HB:=Aside0.mk (below_step (tb HB) hb);clear hb hbox hg)|((with_reducible refine gate_dst (N:=3) rfl ?_);refine bx (N:=3) (cs:=#[.slice A1_0 l1_0.length c1_0,.int .i64 a1_1]) (t:=108) ?_;intro A5 hg w17 hbox hb;have Aa:=Aside0.mk (hbox);have Ag:=Aside0.mk ((by rw [hg];exact (below_size (tb HB)):w.heap.size≤A5));have Ah:=Aside0.mk ((by rw [hg];exact (below_size (tb HB)):w.heap.size≤A5));replace HB:=Aside0.mk (below_step (tb HB) hb);have A6:=Aside0.mk ((by rw [hg];exact Nat.ne_of_lt (blk_lt (g:=A0) (o := .cells #[.slice A8 A2.length A9,.int .i64 A4] 108 (0,0)) (dr A1)):A0≠A5));have A7:=Aside0.mk ((by rw [hg];exact Nat.ne_of_gt (blk_lt (g:=A0) (o := .cells #[.slice A8 A2.length A9,.int .i64 A4] 108 (0,0)) (dr A1)):A5≠A0));replace A1:=Aside0.mk (blk_below (g:=A0) (o := .cells #[.slice A8 A2.length A9,.int .i64 A4] 108 (0,0)) (dr A1) hb);clear hb hbox hg;have hnb18:=A6.out;have hnc18:=A7.out;have hcz19__:=c2_ A1;have hfz19__:=f_ A1;have hcz20__:=c2_ Aa;have hfz20__:=f_ Aa)|((with_reducible refine gate_callee (f:=65) rfl ?_);refine goesL_ (some 9) rfl rfl Try.func65 (by kernel_rfl) rfl #[.slice A8 A2.length A9,.slice A1_0 l1_0.length c1_0] rfl ml ?_;(with_reducible refine (laws_eqIntS.calls k _ _ A2 _ _ l1_0 false _ ?side1 ?side2 ?side3 ?side4 A3.out).mono ?_);(case side1=>exact cw (Kd.C_below Ac.out HB.out));(case side2=>exact Ad.out);(case side3=>exact cw (Kd.C_below HR1_0.out HB.out));(case side4=>exact HC1_0.out);rintro e w' ⟨rfl,⟨nd,rfl⟩⟩;refine ⟨_,rfl,?_⟩));go_ret;exact ⟨er,tb HB⟩
end Go.Proofs.Ytlpfmhikahlcoaa.G
namespace Go.Proofs.Ytlpfmhikahlcoaa.G
open Go.Proofs.Ytlpfmhikahlcoaa.Sh Go.RowKit Go.Proofs.YtlpfmhikahlcoaaW.PrintWords Go.Proofs.YtlpfmhikahlcoaaW.PrintLast Go.Proofs.YtlpfmhikahlcoaaW.PrintMore
attribute [local go_sem] max2_int min2_int max_two min_two max_three min_three max_four min_four
set_option linter.unusedVariables false
set_option linter.unusedSimpArgs false
def laws_eqPickS.l0:Nat→List (S108)→List (S108)→Int→Option (Bool)
 | 0,_,_,_=>none
 | k + 1,x0,x1,x5=>if x5 < (x0.length:Int) then (if 0≤x5 then (if x5 < (x1.length:Int) then ((laws_eqPick.f k ((rd_T108 x0 x5).f0) ((rd_T108 x0 x5).f1) ((rd_T108 x1 x5).f0) ((rd_T108 x1 x5).f1)).bind fun A3=>(if A3=true then (laws_eqPickS.l0 k x0 x1 (wrap64 (x5 + 1))) else (some false))) else (none)) else (none)) else (some true)
def laws_eqPickS.f (k:Nat) (l0:List (S108)) (l1:List (S108)):Option (Bool):=if (l0.length:Int)=(l1.length:Int) then (laws_eqPickS.l0 k l0 l1 0) else (some false)
def laws_eqPickS.T6:Bool × List (List Nat × List Nat):=(true,[([],[]),([],[]),([0,1],[0,1]),([2],[2]),([],[]),([],[]),([4,5],[4,5]),([6],[6]),([3,7],[3,7]),([8],[8])])
def laws_eqPickS.B6:List Nat:=[0,0,3,7,0,0,48,112,255,511]
theorem laws_eqPickS.tab6:rtab .any (opsOf Try.f47 6)=laws_eqPickS.T6:=by kernel_rfl
theorem laws_eqPickS.bits6:waitsOk laws_eqPickS.T6.2 laws_eqPickS.B6=true:=by kernel_rfl
set_option maxHeartbeats 80000000 in
set_option maxRecDepth 100000 in
theorem laws_eqPickS.calls (k:Nat) (A0:Option Addr) (c0:Nat) (l0:List (S108)) (A1:Option Addr) (c1:Nat) (l1:List (S108)) (r:Bool) (w:World) (hr0:Kd.C k108 w A0 l0.length l0) (hc0:l0.length≤c0) (hr1:Kd.C k108 w A1 l1.length l1) (hc1:l1.length≤c1) (h:laws_eqPickS.f k l0 l1=some r) :
  Calls Try.prog 47 #[.slice A0 l0.length c0,.slice A1 l1.length c1] w fun e w'=>e = .returned (.bool r)∧Below w.heap.size w w':=by
 have hu108:=Try.underlying108;have HR0:=Aside0.mk hr0;have HC0:=Aside0.mk hc0;clear hr0 hc0;have HR1:=Aside0.mk hr1;have HC1:=Aside0.mk hc1;clear hr1 hc1;have HB:=Aside0.mk (Below.refl w.heap.size w);have H:(if (l0.length:Int)=(l1.length:Int) then (laws_eqPickS.l0 k l0 l1 0) else (some false))=some r:=h;clear h
 by_cases c3:(l0.length:Int)=(l1.length:Int)
 ·rw [if_pos c3] at H;have c3b0:((l0.length:Int) == (l1.length:Int))=true:=beq_iff_eq.mpr c3;have c3b1:((l0.length:Int) != (l1.length:Int))=false:=bne_eq_false_iff_eq.mpr c3
  have c3b2:(l0.length == l1.length)=true:=by first|simpa using c3|(simp at c3 ⊢;omega)
  clear c3;have H':=Aside0.mk H;clear H
  go_enter Try.func47,Try.ntmps47
  go_wp2
  go_loopg [5] k (fun kq v5 w'=>∃ (A2:Int),v5 = .int .i64 A2∧Aside0 (laws_eqPickS.l0 kq l0 l1 A2=some r)∧Aside0 (kq≤k)∧Aside0 (Below w.heap.size w w'))
  case atStart=>exact ⟨(0),(by first|rfl|(simp;done)|(simp [*];done)),H',⟨Nat.le_refl _⟩,⟨by exact tb HB⟩⟩
  case round =>
   clear H';(try clear c1);(try clear p2);(try clear c3);(try clear c3b0);(try clear c3b1);(try clear c3b2);obtain ⟨A2,rfl,HA,HK1,HB⟩:=hrel
   cases gk with
      | zero=>exact absurd HA.out (by simp [laws_eqPickS.l0])
      | succ k1 =>
    have H:=HA.out;clear HA;simp only [laws_eqPickS.l0] at H
    by_cases c4:A2 < (l0.length:Int)
    ·rw [if_pos c4] at H;have c4b0:decide (A2 < (l0.length:Int))=true:=decide_eq_true c4;clear c4
     by_cases c5:0≤A2
     ·rw [if_pos c5] at H;have c5b0:decide (0≤A2)=true:=decide_eq_true c5;clear c5
      by_cases c6:A2 < (l1.length:Int)
      ·rw [if_pos c6] at H;have c6b0:decide (A2 < (l1.length:Int))=true:=decide_eq_true c6;clear c6;replace H:=ob H;obtain ⟨A3,A70,H⟩:=H;replace H:(if A3=true then (laws_eqPickS.l0 k1 l0 l1 (wrap64 (A2 + 1))) else (some false))=some r:=H;have A7:=Aside0.mk A70;clear A70
       by_cases c8:A3=true
       ·subst c8
        have H1:(laws_eqPickS.l0 k1 l0 l1 (wrap64 (A2 + 1)))=some r:=by rw [if_pos rfl] at H;exact H
        clear H;have H:=H1;clear H1;have H':=Aside0.mk H;clear H
        try go_wp2
        replace HB:=Aside0.mk (below_drew1 HB.out);have p101:0≤(A2:Int):=od;have q101:A2 < (l0.length:Int):=od;obtain ⟨ad101,A101_0,c101_0,e101,hx101_0,hx101_1,hl101_0,hi101_0⟩:=at_T108 HR0.out A2 p101 q101;have hw101_1:=hx101_1;have hw101_0:=hx101_0;cases e101;replace hx101_0:=ct HB hx101_0;replace hx101_1:=ct HB hx101_1;have HR101_0:=Aside0.mk hi101_0;have HC101_0:=Aside0.mk hl101_0;clear hi101_0 hl101_0;replace p101:=eq_true p101;replace q101:=eq_true q101;have p102:0≤(A2:Int):=od;have q102:A2 < (l1.length:Int):=od;obtain ⟨ad102,A102_0,c102_0,e102,hx102_0,hx102_1,hl102_0,hi102_0⟩:=at_T108 HR1.out A2 p102 q102;have hw102_1:=hx102_1;have hw102_0:=hx102_0;cases e102;replace hx102_0:=ct HB hx102_0;replace hx102_1:=ct HB hx102_1;have HR102_0:=Aside0.mk hi102_0;have HC102_0:=Aside0.mk hl102_0;clear hi102_0 hl102_0;replace p102:=eq_true p102;replace q102:=eq_true q102;refine start_ (n:=10) (S:=fun w'=>w'.cell? (ad101.add ((A2).toNat * 2))=some (.slice A101_0 ((rd_T108 l0 A2).f0).length c101_0)∧w'.cell? ⟨(ad101.add ((A2).toNat * 2)).block,(ad101.add ((A2).toNat * 2)).off + 1,none⟩=some (.int .i64 ((rd_T108 l0 A2).f1))∧w'.cell? (ad102.add ((A2).toNat * 2))=some (.slice A102_0 ((rd_T108 l1 A2).f0).length c102_0)∧w'.cell? ⟨(ad102.add ((A2).toNat * 2)).block,(ad102.add ((A2).toNat * 2)).off + 1,none⟩=some (.int .i64 ((rd_T108 l1 A2).f1))) (ds:=[]) (tf 0 10) (by kernel_rfl) rfl rfl ⟨(ct HB hw101_0 :),(ct HB hw101_1 :),(ct HB hw102_0 :),(ct HB hw102_1 :)⟩ (fun hHeld=>?_);refine with_tabW laws_eqPickS.tab6 laws_eqPickS.bits6 (fun HT_ HW_=>?_);generalize wr.drew=w9 at HB HR101_0 HR102_0 hx101_0 hx101_1 hx102_0 hx102_1 hHeld ⊢;refine pure_ (i:=0) (N:=some 17) (v:=?_) (a':=?_) (tf 1 9) rfl rfl (any_of HT_.out (by kernel_rfl)) (fun _ _ _ h=>h) (Or.inl ⟨by rfl,?_⟩) ?_ ?_;rotate_left
        ·intro w';go_simp;with_reducible rfl
        rotate_left
        ·simp only [Act.put,s1,s2,s3,i64_w,i32_w];rfl
        refine pure_ (i:=1) (N:=some 18) (v:=?_) (a':=?_) (tf 2 8) rfl rfl (any_of HT_.out (by kernel_rfl)) (fun _ _ _ h=>h) (Or.inl ⟨by rfl,?_⟩) ?_ ?_;rotate_left
        ·intro w';go_simp;with_reducible rfl
        rotate_left
        ·simp only [Act.put,s1,s2,s3,i64_w,i32_w];rfl
        refine pure_ (i:=2) (N:=some 19) (v:=?_) (a':=?_) (tf 3 7) rfl rfl (any_of HT_.out (by kernel_rfl)) (fun _ _ _ h=>h) (Or.inl ⟨by rfl,?_⟩) ?_ ?_;rotate_left
        ·intro w';go_simp;with_reducible rfl
        rotate_left
        ·simp only [Act.put,s1,s2,s3,i64_w,i32_w];rfl
        refine pure_ (i:=4) (N:=some 21) (v:=?_) (a':=?_) #[true,true,true,false,true,false,false,false,false,false] rfl rfl (any_of HT_.out (by kernel_rfl)) (fun _ _ _ h=>h) (Or.inl ⟨by rfl,?_⟩) ?_ ?_;rotate_left
        ·intro w';go_simp;with_reducible rfl
        rotate_left
        ·simp only [Act.put,s1,s2,s3,i64_w,i32_w];rfl
        refine pure_ (i:=5) (N:=some 22) (v:=?_) (a':=?_) #[true,true,true,false,true,true,false,false,false,false] rfl rfl (any_of HT_.out (by kernel_rfl)) (fun _ _ _ h=>h) (Or.inl ⟨by rfl,?_⟩) ?_ ?_;rotate_left
        ·intro w';go_simp;with_reducible rfl
        rotate_left
        ·simp only [Act.put,s1,s2,s3,i64_w,i32_w];rfl
        refine pure_ (i:=6) (N:=some 23) (v:=?_) (a':=?_) #[true,true,true,false,true,true,true,false,false,false] rfl rfl (any_of HT_.out (by kernel_rfl)) (fun _ _ _ h=>h) (Or.inl ⟨by rfl,?_⟩) ?_ ?_;rotate_left
        ·intro w';go_simp;with_reducible rfl
        rotate_left
        ·simp only [Act.put,s1,s2,s3,i64_w,i32_w];rfl
        refine take_ (i:=3) (N:=some 20) (v:=?_) (a':=?_) (tf 7 3) rfl rfl (take_ofW HT_.out HW_.out (by kernel_rfl)) (fun _ _ _ h=>h) (Or.inl ⟨by rfl,?_⟩) hHeld ?_ ?_;rotate_left
        ·rintro w' ⟨s0,s1,s2,s3⟩;go_simp;with_reducible rfl
        rotate_left
        ·simp only [Act.put,s1,s2,s3,i64_w,i32_w];rfl
        refine take_ (i:=7) (N:=some 24) (v:=?_) (a':=?_) (tf 8 2) rfl rfl (take_ofW HT_.out HW_.out (by kernel_rfl)) (fun _ _ _ h=>h) (Or.inl ⟨by rfl,?_⟩) hHeld ?_ ?_;rotate_left
        ·rintro w' ⟨s0,s1,s2,s3⟩;go_simp;with_reducible rfl
        rotate_left
        ·simp only [Act.put,s1,s2,s3,i64_w,i32_w];rfl
        refine one_ (i:=8) (N:=some 25) (tf 9 1) rfl rfl (one_of HT_.out (by kernel_rfl)) (by decide) (fun K hK=>?_);refine goes_ Try.func92 (by kernel_rfl) rfl #[.agg #[.slice A101_0 ((rd_T108 l0 A2).f0).length c101_0,.int .i64 ((rd_T108 l0 A2).f1)],.agg #[.slice A102_0 ((rd_T108 l1 A2).f0).length c102_0,.int .i64 ((rd_T108 l1 A2).f1)]] (by rfl) rfl rfl ml ?_
        with_reducible refine (laws_eqPick.calls k1 _ _ ((rd_T108 l0 A2).f0) ((rd_T108 l0 A2).f1) _ _ ((rd_T108 l1 A2).f0) ((rd_T108 l1 A2).f1) true _ ?side1 ?side2 ?side3 ?side4 A7.out).mono ?_
        (case side1=>exact cw (Kd.C_below HR101_0.out HB.out))
        (case side2=>exact HC101_0.out)
        (case side3=>exact cw (Kd.C_below HR102_0.out HB.out))
        (case side4=>exact HC102_0.out)
        rintro e w10 ⟨rfl,hb⟩;refine ⟨_,rfl,?_⟩;replace HB:=bs0 HB hb;(try clear hb);(try clear hb2);(try clear hk);(try clear hi);refine hK.out _ _ ⟨(ct HB hw101_0 :),(ct HB hw101_1 :),(ct HB hw102_0 :),(ct HB hw102_1 :)⟩ (fun hHeld=>?_);clear hK K;refine norm_ (a':=?_) ?_ ?_;rotate_left
        ·show Act.put _ (some 25) _=_
         simp only [Act.put,s1,s2,s3,i64_w,i32_w];rfl
        refine pure_ (i:=9) (N:=some 26) (v:=?_) (a':=?_) (tf 10 0) rfl rfl (any_of HT_.out (by kernel_rfl)) (fun _ _ _ h=>h) (Or.inl ⟨by rfl,?_⟩) ?_ ?_;rotate_left
        ·intro w';go_simp;with_reducible rfl
        rotate_left
        ·simp only [Act.put,s1,s2,s3,i64_w,i32_w];rfl
        refine done_ (done_of HT_.out (by kernel_rfl)) ?_
        try go_wp2
        go_roundg k1
        case measure=>have:=HK1.out;omega
        case rel=>exact ⟨(wrap64 (A2 + 1)),(by first|rfl|(simp;done)|(simp [*];done)),H',⟨by have:=HK1.out;omega⟩,⟨by exact tb HB⟩⟩
       ·replace c8:=Bool.eq_false_iff.mpr c8;subst c8
        have H1:(some false)=some r:=by rw [if_neg (show ¬ (false=true) by decide)] at H;exact H
        clear H;have H:=H1;clear H1;obtain rfl:=os H
        try go_wp2
        replace HB:=Aside0.mk (below_drew1 HB.out);have p101:0≤(A2:Int):=od;have q101:A2 < (l0.length:Int):=od;obtain ⟨ad101,A101_0,c101_0,e101,hx101_0,hx101_1,hl101_0,hi101_0⟩:=at_T108 HR0.out A2 p101 q101;have hw101_1:=hx101_1;have hw101_0:=hx101_0;cases e101;replace hx101_0:=ct HB hx101_0;replace hx101_1:=ct HB hx101_1;have HR101_0:=Aside0.mk hi101_0;have HC101_0:=Aside0.mk hl101_0;clear hi101_0 hl101_0;replace p101:=eq_true p101;replace q101:=eq_true q101;have p102:0≤(A2:Int):=od;have q102:A2 < (l1.length:Int):=od;obtain ⟨ad102,A102_0,c102_0,e102,hx102_0,hx102_1,hl102_0,hi102_0⟩:=at_T108 HR1.out A2 p102 q102;have hw102_1:=hx102_1;have hw102_0:=hx102_0;cases e102;replace hx102_0:=ct HB hx102_0;replace hx102_1:=ct HB hx102_1;have HR102_0:=Aside0.mk hi102_0;have HC102_0:=Aside0.mk hl102_0;clear hi102_0 hl102_0;replace p102:=eq_true p102;replace q102:=eq_true q102;refine start_ (n:=10) (S:=fun w'=>w'.cell? (ad101.add ((A2).toNat * 2))=some (.slice A101_0 ((rd_T108 l0 A2).f0).length c101_0)∧w'.cell? ⟨(ad101.add ((A2).toNat * 2)).block,(ad101.add ((A2).toNat * 2)).off + 1,none⟩=some (.int .i64 ((rd_T108 l0 A2).f1))∧w'.cell? (ad102.add ((A2).toNat * 2))=some (.slice A102_0 ((rd_T108 l1 A2).f0).length c102_0)∧w'.cell? ⟨(ad102.add ((A2).toNat * 2)).block,(ad102.add ((A2).toNat * 2)).off + 1,none⟩=some (.int .i64 ((rd_T108 l1 A2).f1))) (ds:=[]) (tf 0 10) (by kernel_rfl) rfl rfl ⟨(ct HB hw101_0 :),(ct HB hw101_1 :),(ct HB hw102_0 :),(ct HB hw102_1 :)⟩ (fun hHeld=>?_);refine with_tabW laws_eqPickS.tab6 laws_eqPickS.bits6 (fun HT_ HW_=>?_);generalize wr.drew=w11 at HB HR101_0 HR102_0 hx101_0 hx101_1 hx102_0 hx102_1 hHeld ⊢;refine pure_ (i:=0) (N:=some 17) (v:=?_) (a':=?_) (tf 1 9) rfl rfl (any_of HT_.out (by kernel_rfl)) (fun _ _ _ h=>h) (Or.inl ⟨by rfl,?_⟩) ?_ ?_;rotate_left
        ·intro w';go_simp;with_reducible rfl
        rotate_left
        ·simp only [Act.put,s1,s2,s3,i64_w,i32_w];rfl
        refine pure_ (i:=1) (N:=some 18) (v:=?_) (a':=?_) (tf 2 8) rfl rfl (any_of HT_.out (by kernel_rfl)) (fun _ _ _ h=>h) (Or.inl ⟨by rfl,?_⟩) ?_ ?_;rotate_left
        ·intro w';go_simp;with_reducible rfl
        rotate_left
        ·simp only [Act.put,s1,s2,s3,i64_w,i32_w];rfl
        refine pure_ (i:=2) (N:=some 19) (v:=?_) (a':=?_) (tf 3 7) rfl rfl (any_of HT_.out (by kernel_rfl)) (fun _ _ _ h=>h) (Or.inl ⟨by rfl,?_⟩) ?_ ?_;rotate_left
        ·intro w';go_simp;with_reducible rfl
        rotate_left
        ·simp only [Act.put,s1,s2,s3,i64_w,i32_w];rfl
        refine pure_ (i:=4) (N:=some 21) (v:=?_) (a':=?_) #[true,true,true,false,true,false,false,false,false,false] rfl rfl (any_of HT_.out (by kernel_rfl)) (fun _ _ _ h=>h) (Or.inl ⟨by rfl,?_⟩) ?_ ?_;rotate_left
        ·intro w';go_simp;with_reducible rfl
        rotate_left
        ·simp only [Act.put,s1,s2,s3,i64_w,i32_w];rfl
        refine pure_ (i:=5) (N:=some 22) (v:=?_) (a':=?_) #[true,true,true,false,true,true,false,false,false,false] rfl rfl (any_of HT_.out (by kernel_rfl)) (fun _ _ _ h=>h) (Or.inl ⟨by rfl,?_⟩) ?_ ?_;rotate_left
        ·intro w';go_simp;with_reducible rfl
        rotate_left
        ·simp only [Act.put,s1,s2,s3,i64_w,i32_w];rfl
        refine pure_ (i:=6) (N:=some 23) (v:=?_) (a':=?_) #[true,true,true,false,true,true,true,false,false,false] rfl rfl (any_of HT_.out (by kernel_rfl)) (fun _ _ _ h=>h) (Or.inl ⟨by rfl,?_⟩) ?_ ?_;rotate_left
        ·intro w';go_simp;with_reducible rfl
        rotate_left
        ·simp only [Act.put,s1,s2,s3,i64_w,i32_w];rfl
        refine take_ (i:=3) (N:=some 20) (v:=?_) (a':=?_) (tf 7 3) rfl rfl (take_ofW HT_.out HW_.out (by kernel_rfl)) (fun _ _ _ h=>h) (Or.inl ⟨by rfl,?_⟩) hHeld ?_ ?_;rotate_left
        ·rintro w' ⟨s0,s1,s2,s3⟩;go_simp;with_reducible rfl
        rotate_left
        ·simp only [Act.put,s1,s2,s3,i64_w,i32_w];rfl
        refine take_ (i:=7) (N:=some 24) (v:=?_) (a':=?_) (tf 8 2) rfl rfl (take_ofW HT_.out HW_.out (by kernel_rfl)) (fun _ _ _ h=>h) (Or.inl ⟨by rfl,?_⟩) hHeld ?_ ?_;rotate_left
        ·rintro w' ⟨s0,s1,s2,s3⟩;go_simp;with_reducible rfl
        rotate_left
        ·simp only [Act.put,s1,s2,s3,i64_w,i32_w];rfl
        refine one_ (i:=8) (N:=some 25) (tf 9 1) rfl rfl (one_of HT_.out (by kernel_rfl)) (by decide) (fun K hK=>?_);refine goes_ Try.func92 (by kernel_rfl) rfl #[.agg #[.slice A101_0 ((rd_T108 l0 A2).f0).length c101_0,.int .i64 ((rd_T108 l0 A2).f1)],.agg #[.slice A102_0 ((rd_T108 l1 A2).f0).length c102_0,.int .i64 ((rd_T108 l1 A2).f1)]] (by rfl) rfl rfl ml ?_
        with_reducible refine (laws_eqPick.calls k1 _ _ ((rd_T108 l0 A2).f0) ((rd_T108 l0 A2).f1) _ _ ((rd_T108 l1 A2).f0) ((rd_T108 l1 A2).f1) false _ ?side1 ?side2 ?side3 ?side4 A7.out).mono ?_
        (case side1=>exact cw (Kd.C_below HR101_0.out HB.out))
        (case side2=>exact HC101_0.out)
        (case side3=>exact cw (Kd.C_below HR102_0.out HB.out))
        (case side4=>exact HC102_0.out)
        rintro e w12 ⟨rfl,hb⟩;refine ⟨_,rfl,?_⟩;replace HB:=bs0 HB hb;(try clear hb);(try clear hb2);(try clear hk);(try clear hi);refine hK.out _ _ ⟨(ct HB hw101_0 :),(ct HB hw101_1 :),(ct HB hw102_0 :),(ct HB hw102_1 :)⟩ (fun hHeld=>?_);clear hK K;refine norm_ (a':=?_) ?_ ?_;rotate_left
        ·show Act.put _ (some 25) _=_
         simp only [Act.put,s1,s2,s3,i64_w,i32_w];rfl
        refine pure_ (i:=9) (N:=some 26) (v:=?_) (a':=?_) (tf 10 0) rfl rfl (any_of HT_.out (by kernel_rfl)) (fun _ _ _ h=>h) (Or.inl ⟨by rfl,?_⟩) ?_ ?_;rotate_left
        ·intro w';go_simp;with_reducible rfl
        rotate_left
        ·simp only [Act.put,s1,s2,s3,i64_w,i32_w];rfl
        refine done_ (done_of HT_.out (by kernel_rfl)) ?_
        try go_wp2
        go_ret;exact ⟨er,tb HB⟩
      ·rw [if_neg c6] at H;exact absurd H (by simp)
     ·rw [if_neg c5] at H;exact absurd H (by simp)
    ·rw [if_neg c4] at H;have c4b0:decide (A2 < (l0.length:Int))=false:=decide_eq_false c4;clear c4;obtain rfl:=os H;go_wp2;go_ret;exact ⟨er,tb HB⟩
 ·rw [if_neg c3] at H;have c3b0:((l0.length:Int) == (l1.length:Int))=false:=beq_eq_false_iff_ne.mpr c3;have c3b1:((l0.length:Int) != (l1.length:Int))=true:=bne_iff_ne.mpr c3
  have c3b2:(l0.length == l1.length)=false:=by first|simpa using c3|(simp at c3 ⊢;omega)
  obtain rfl:=os H
  go_enter Try.func47,Try.ntmps47
  go_wp2;go_ret;exact ⟨er,tb HB⟩
end Go.Proofs.Ytlpfmhikahlcoaa.G
namespace Go.Proofs.Ytlpfmhikahlcoaa.G
open Go.Proofs.Ytlpfmhikahlcoaa.Sh
open Go.RowKit Go.Proofs.YtlpfmhikahlcoaaW.PrintWords Go.Proofs.YtlpfmhikahlcoaaW.PrintLast Go.Proofs.YtlpfmhikahlcoaaW.PrintMore
attribute [local go_sem] max2_int min2_int max_two min_two max_three min_three max_four min_four
set_option linter.unusedVariables false
set_option linter.unusedSimpArgs false
def laws_heldIntS.l0:Nat→List Int→Int→Int→Option (Int)
 | 0,_,_,_=>none
 | k + 1,x0,x1,x5=>if x5 < (x0.length:Int) then (if 0≤x5 then (if (rd x0 x5)=x1 then (laws_heldIntS.l0 k x0 (wrap64 (x1 + 1)) (wrap64 (x5 + 1))) else (some (-1))) else (none)) else (some x1)
def laws_heldIntS.f (k:Nat) (l0:List Int) (a1:Int):Option (Int):=laws_heldIntS.l0 k l0 a1 0
set_option maxHeartbeats 8000000 in
set_option maxRecDepth 100000 in
theorem laws_heldIntS.calls (k:Nat) (A0:Option Addr) (c0:Nat) (l0:List Int) (a1:Int) (r:Int) (w:World) (hr0:Kd.C (Kd.int .i64) w A0 l0.length l0) (hc0:l0.length≤c0) (h:laws_heldIntS.f k l0 a1=some r) :
  Calls Try.prog 70 #[.slice A0 l0.length c0,.int .i64 a1] w fun e w'=>e = .returned (.int .i64 r)∧Drawn0 w w':=by
 have HR0:=Aside0.mk hr0;have HC0:=Aside0.mk hc0;clear hr0 hc0;have H:(laws_heldIntS.l0 k l0 a1 0)=some r:=h;clear h;have H':=Aside0.mk H;clear H
 go_enter Try.func70,Try.ntmps70
 go_wp2
 go_loopg [1,5] k (fun kq v1 v5 w'=>∃ (A2:Int) (A1:Int),v1 = .int .i64 A2∧v5 = .int .i64 A1∧Aside0 (laws_heldIntS.l0 kq l0 A2 A1=some r)∧Aside0 (kq≤k)∧Drawn0 w w')
 case atStart=>exact ⟨(a1),(0),(by first|rfl|(simp;done)|(simp [*];done)),(by first|rfl|(simp;done)|(simp [*];done)),H',⟨Nat.le_refl _⟩,by repeat (first|exact Drawn0.refl _|apply Drawn0.step)⟩
 case round =>
  clear H';(try clear p2);obtain ⟨A2,A1,rfl,rfl,HA,HK1,⟨m1,rfl⟩⟩:=hrel
  cases gk with
  | zero=>exact absurd HA.out (by simp [laws_heldIntS.l0])
  | succ k1 =>
   have H:=HA.out;clear HA;simp only [laws_heldIntS.l0] at H
   by_cases c3:A1 < (l0.length:Int)
   ·rw [if_pos c3] at H;have c3b0:decide (A1 < (l0.length:Int))=true:=decide_eq_true c3;clear c3
    by_cases c4:0≤A1
    ·rw [if_pos c4] at H;have c4b0:decide (0≤A1)=true:=decide_eq_true c4;clear c4
     by_cases c5:(rd l0 A1)=A2
     ·rw [if_pos c5] at H;have c5b0:((rd l0 A1) == A2)=true:=beq_iff_eq.mpr c5;have c5b1:((rd l0 A1) != A2)=false:=bne_eq_false_iff_eq.mpr c5;clear c5;have H':=Aside0.mk H;clear H;have p101:0≤(A1:Int):=od;have q101:A1 < (l0.length:Int):=od;obtain ⟨ad101,e101,hx101_0⟩:=Kd.at_int HR0.out A1 p101 q101;cases e101;replace p101:=eq_true p101;replace q101:=eq_true q101;go_wp2;go_roundg k1
      case measure=>have:=HK1.out;omega
      case rel=>exact ⟨(wrap64 (A2 + 1)),(wrap64 (A1 + 1)),(by first|rfl|(simp;done)|(simp [*];done)),(by first|rfl|(simp;done)|(simp [*];done)),H',⟨by have:=HK1.out;omega⟩,by repeat (first|exact Drawn0.refl _|apply Drawn0.step)⟩
     ·rw [if_neg c5] at H;have c5b0:((rd l0 A1) == A2)=false:=beq_eq_false_iff_ne.mpr c5;have c5b1:((rd l0 A1) != A2)=true:=bne_iff_ne.mpr c5;obtain rfl:=os H;have p101:0≤(A1:Int):=od;have q101:A1 < (l0.length:Int):=od;obtain ⟨ad101,e101,hx101_0⟩:=Kd.at_int HR0.out A1 p101 q101;cases e101;replace p101:=eq_true p101;replace q101:=eq_true q101;go_wp2;go_ret;exact ⟨e1,dn⟩
    ·rw [if_neg c4] at H;exact absurd H (by simp)
   ·rw [if_neg c3] at H;have c3b0:decide (A1 < (l0.length:Int))=false:=decide_eq_false c3;clear c3;obtain rfl:=os H;go_wp2;go_ret;exact ⟨e1,dn⟩
def laws_heldPickS.l0:Nat→List (S108)→Int→Int→Option (Int)
 | 0,_,_,_=>none
 | k + 1,x0,x1,x5=>if x5 < (x0.length:Int) then (if 0≤x5 then ((laws_heldIntS.f k ((rd_T108 x0 x5).f0) x1).bind fun A2=>(if A2 < 0 then (some (-1)) else (if ((rd_T108 x0 x5).f1)=A2 then (laws_heldPickS.l0 k x0 (wrap64 (A2 + 1)) (wrap64 (x5 + 1))) else (some (-1))))) else (none)) else (some x1)
def laws_heldPickS.f (k:Nat) (l0:List (S108)) (a1:Int):Option (Int):=laws_heldPickS.l0 k l0 a1 0
set_option maxHeartbeats 8000000 in
set_option maxRecDepth 100000 in
theorem laws_heldPickS.calls (k:Nat) (A0:Option Addr) (c0:Nat) (l0:List (S108)) (a1:Int) (r:Int) (w:World) (hr0:Kd.C k108 w A0 l0.length l0) (hc0:l0.length≤c0) (h:laws_heldPickS.f k l0 a1=some r) :
  Calls Try.prog 49 #[.slice A0 l0.length c0,.int .i64 a1] w fun e w'=>e = .returned (.int .i64 r)∧Drawn0 w w':=by
 have HR0:=Aside0.mk hr0;have HC0:=Aside0.mk hc0;clear hr0 hc0;have H:(laws_heldPickS.l0 k l0 a1 0)=some r:=h;clear h;have H':=Aside0.mk H;clear H
 go_enter Try.func49,Try.ntmps49
 go_wp2
 go_loopg [1,5] k (fun kq v1 v5 w'=>∃ (A3:Int) (A1:Int),v1 = .int .i64 A3∧v5 = .int .i64 A1∧Aside0 (laws_heldPickS.l0 kq l0 A3 A1=some r)∧Aside0 (kq≤k)∧Drawn0 w w')
 case atStart=>exact ⟨(a1),(0),(by first|rfl|(simp;done)|(simp [*];done)),(by first|rfl|(simp;done)|(simp [*];done)),H',⟨Nat.le_refl _⟩,by repeat (first|exact Drawn0.refl _|apply Drawn0.step)⟩
 case round =>
  clear H';(try clear p2);obtain ⟨A3,A1,rfl,rfl,HA,HK1,⟨m1,rfl⟩⟩:=hrel
  cases gk with
  | zero=>exact absurd HA.out (by simp [laws_heldPickS.l0])
  | succ k1 =>
   have H:=HA.out;clear HA;simp only [laws_heldPickS.l0] at H
   by_cases c3:A1 < (l0.length:Int)
   ·rw [if_pos c3] at H;have c3b0:decide (A1 < (l0.length:Int))=true:=decide_eq_true c3;clear c3
    by_cases c4:0≤A1
    ·rw [if_pos c4] at H;have c4b0:decide (0≤A1)=true:=decide_eq_true c4;clear c4;replace H:=ob H;obtain ⟨A2,A50,H⟩:=H;replace H:(if A2 < 0 then (some (-1)) else (if ((rd_T108 l0 A1).f1)=A2 then (laws_heldPickS.l0 k1 l0 (wrap64 (A2 + 1)) (wrap64 (A1 + 1))) else (some (-1))))=some r:=H;have A5:=Aside0.mk A50;clear A50
     by_cases c6:A2 < 0
     ·rw [if_pos c6] at H;have c6b0:decide (A2 < 0)=true:=decide_eq_true c6;clear c6;obtain rfl:=os H;have p101:0≤(A1:Int):=od;have q101:A1 < (l0.length:Int):=od;obtain ⟨ad101,A101_0,c101_0,e101,hx101_0,hx101_1,hl101_0,hi101_0⟩:=at_T108 HR0.out A1 p101 q101;cases e101;have HR101_0:=Aside0.mk hi101_0;have HC101_0:=Aside0.mk hl101_0;clear hi101_0 hl101_0;replace p101:=eq_true p101;replace q101:=eq_true q101;go_wp2_with (first|((with_reducible refine gate_callee (f:=70) rfl ?_);refine goesL_ (some 18) rfl rfl Try.func70 (by kernel_rfl) rfl #[.slice A101_0 ((rd_T108 l0 A1).f0).length c101_0,.int .i64 A3] rfl ml ?_;(with_reducible refine (laws_heldIntS.calls k1 _ _ ((rd_T108 l0 A1).f0) A3 A2 _ ?side1 ?side2 A5.out).mono ?_);(case side1=>exact cw HR101_0.out);(case side2=>exact HC101_0.out);rintro e w' ⟨rfl,⟨nd,rfl⟩⟩;refine ⟨_,rfl,?_⟩));go_ret;exact ⟨e1,dn⟩
     ·rw [if_neg c6] at H;have c6b0:decide (A2 < 0)=false:=decide_eq_false c6;clear c6
      by_cases c7:((rd_T108 l0 A1).f1)=A2
      ·rw [if_pos c7] at H;have c7b0:(((rd_T108 l0 A1).f1) == A2)=true:=beq_iff_eq.mpr c7;have c7b1:(((rd_T108 l0 A1).f1) != A2)=false:=bne_eq_false_iff_eq.mpr c7;clear c7;have H':=Aside0.mk H;clear H;have p101:0≤(A1:Int):=od;have q101:A1 < (l0.length:Int):=od;obtain ⟨ad101,A101_0,c101_0,e101,hx101_0,hx101_1,hl101_0,hi101_0⟩:=at_T108 HR0.out A1 p101 q101;cases e101;have HR101_0:=Aside0.mk hi101_0;have HC101_0:=Aside0.mk hl101_0;clear hi101_0 hl101_0;replace p101:=eq_true p101;replace q101:=eq_true q101;go_wp2_with (first|((with_reducible refine gate_callee (f:=70) rfl ?_);refine goesL_ (some 18) rfl rfl Try.func70 (by kernel_rfl) rfl #[.slice A101_0 ((rd_T108 l0 A1).f0).length c101_0,.int .i64 A3] rfl ml ?_;(with_reducible refine (laws_heldIntS.calls k1 _ _ ((rd_T108 l0 A1).f0) A3 A2 _ ?side1 ?side2 A5.out).mono ?_);(case side1=>exact cw HR101_0.out);(case side2=>exact HC101_0.out);rintro e w' ⟨rfl,⟨nd,rfl⟩⟩;refine ⟨_,rfl,?_⟩;have p103:0≤(A1:Int):=od;have q103:A1 < (l0.length:Int):=od;obtain ⟨ad103,A103_0,c103_0,e103,hx103_0,hx103_1,hl103_0,hi103_0⟩:=at_T108 HR0.out A1 p103 q103;obtain rfl:ad101=ad103:=(by injection e103);have HR103_0:=Aside0.mk hi103_0;have HC103_0:=Aside0.mk hl103_0;clear hi103_0 hl103_0;replace p103:=eq_true p103;replace q103:=eq_true q103;have ea_:=Option.some.inj (hx101_0.symm.trans hx103_0);injection ea_ with ea_ en_ ec_;subst ea_;subst ec_;clear en_));go_roundg k1
       case measure=>have:=HK1.out;omega
       case rel=>exact ⟨(wrap64 (A2 + 1)),(wrap64 (A1 + 1)),(by first|rfl|(simp;done)|(simp [*];done)),(by first|rfl|(simp;done)|(simp [*];done)),H',⟨by have:=HK1.out;omega⟩,by repeat (first|exact Drawn0.refl _|apply Drawn0.step)⟩
      ·rw [if_neg c7] at H;have c7b0:(((rd_T108 l0 A1).f1) == A2)=false:=beq_eq_false_iff_ne.mpr c7;have c7b1:(((rd_T108 l0 A1).f1) != A2)=true:=bne_iff_ne.mpr c7;obtain rfl:=os H;have p101:0≤(A1:Int):=od;have q101:A1 < (l0.length:Int):=od;obtain ⟨ad101,A101_0,c101_0,e101,hx101_0,hx101_1,hl101_0,hi101_0⟩:=at_T108 HR0.out A1 p101 q101;cases e101;have HR101_0:=Aside0.mk hi101_0;have HC101_0:=Aside0.mk hl101_0;clear hi101_0 hl101_0;replace p101:=eq_true p101;replace q101:=eq_true q101;go_wp2_with (first|((with_reducible refine gate_callee (f:=70) rfl ?_);refine goesL_ (some 18) rfl rfl Try.func70 (by kernel_rfl) rfl #[.slice A101_0 ((rd_T108 l0 A1).f0).length c101_0,.int .i64 A3] rfl ml ?_;(with_reducible refine (laws_heldIntS.calls k1 _ _ ((rd_T108 l0 A1).f0) A3 A2 _ ?side1 ?side2 A5.out).mono ?_);(case side1=>exact cw HR101_0.out);(case side2=>exact HC101_0.out);rintro e w' ⟨rfl,⟨nd,rfl⟩⟩;refine ⟨_,rfl,?_⟩;have p103:0≤(A1:Int):=od;have q103:A1 < (l0.length:Int):=od;obtain ⟨ad103,A103_0,c103_0,e103,hx103_0,hx103_1,hl103_0,hi103_0⟩:=at_T108 HR0.out A1 p103 q103;obtain rfl:ad101=ad103:=(by injection e103);have HR103_0:=Aside0.mk hi103_0;have HC103_0:=Aside0.mk hl103_0;clear hi103_0 hl103_0;replace p103:=eq_true p103;replace q103:=eq_true q103;have ea_:=Option.some.inj (hx101_0.symm.trans hx103_0);injection ea_ with ea_ en_ ec_;subst ea_;subst ec_;clear en_));go_ret;exact ⟨e1,dn⟩
    ·rw [if_neg c4] at H;exact absurd H (by simp)
   ·rw [if_neg c3] at H;have c3b0:decide (A1 < (l0.length:Int))=false:=decide_eq_false c3;clear c3;obtain rfl:=os H;go_wp2;go_ret;exact ⟨e1,dn⟩
def laws_markBoolS.l0:Nat→List Bool→Int→Int→Option (Int × List Bool)
 | 0,_,_,_=>none
 | k + 1,x0,x1,x5=>if x5 < (x0.length:Int) then (if 0≤x5 then (laws_markBoolS.l0 k (x0.set (x5:Int).toNat ((Int.tmod x1 3) == 0)) (wrap64 (x1 + 1)) (wrap64 (x5 + 1))) else (none)) else (some (x1,x0))
def laws_markBoolS.f (k:Nat) (l0:List Bool) (a1:Int):Option (Int × List Bool):=laws_markBoolS.l0 k l0 a1 0
set_option maxHeartbeats 8000000 in
set_option maxRecDepth 100000 in
theorem laws_markBoolS.calls (k:Nat) (P0_:Nat→Prop) (u9000_:Value) (l0:List Bool) (a1:Int) (r1:Int) (r2:List Bool) (w0 w:World) (hB:Below w0.heap.size w0 w) (ho0:Kd.R Kd.bool 4 w w0.heap.size P0_ u9000_ l0) (h:laws_markBoolS.f k l0 a1=some (r1,r2)) :
  Calls Try.prog 26 #[u9000_,.int .i64 a1] w fun e w'=>e = .returned (.int .i64 r1)∧Kd.R Kd.bool 4 w' w0.heap.size (fun k_=>(P0_ k_∨w.heap.size≤k_)) u9000_ r2∧Below w0.heap.size w0 w'∧Kept w w' (fun k_=>P0_ k_):=by
 have HO0:=Aside0.mk (show Kd.R Kd.bool 4 w w0.heap.size (fun k_=>(P0_ k_∨w.heap.size≤k_)) u9000_ l0 from Kd.R_mono ho0 (fun k_ hk=>(.inl hk)));have HK:=Aside0.mk (Kept.refl w (fun k_=>P0_ k_));have HW0:=Aside0.mk hB.size;have HB:=Aside0.mk hB;clear hB;have H:(laws_markBoolS.l0 k l0 a1 0)=some (r1,r2):=h;clear h;have H':=Aside0.mk H;clear H
 go_enter Try.func26,Try.ntmps26
 go_wp2
 go_loopg [1,5] k (fun kq v1 v5 w'=>∃ (A2:List Bool) (A3:Int) (A0:Int),v1 = .int .i64 A3∧v5 = .int .i64 A0∧Aside0 (laws_markBoolS.l0 kq A2 A3 A0=some (r1,r2))∧Aside0 (kq≤k)∧Aside0 (Kd.R Kd.bool 4 w' w0.heap.size (fun k_=>(P0_ k_∨w.heap.size≤k_)) u9000_ A2)∧Aside0 (Kept w w' (fun k_=>P0_ k_))∧Aside0 (Below w0.heap.size w0 w'))
 case atStart=>exact ⟨(l0),(a1),(0),(by first|rfl|(simp;done)|(simp [*];done)),(by first|rfl|(simp;done)|(simp [*];done)),H',⟨Nat.le_refl _⟩,⟨ra HO0⟩,⟨by exact tk HK⟩,⟨by exact tb HB⟩⟩
 case round =>
  clear H';(try clear c2);(try clear p2);obtain ⟨A2,A3,A0,rfl,rfl,HA,HK1,A1,HK,HB⟩:=hrel
  cases gk with
  | zero=>exact absurd HA.out (by simp [laws_markBoolS.l0])
  | succ k1 =>
   have H:=HA.out;clear HA;simp only [laws_markBoolS.l0] at H
   by_cases c3:A0 < (A2.length:Int)
   ·rw [if_pos c3] at H;have c3b0:decide (A0 < (A2.length:Int))=true:=decide_eq_true c3;clear c3
    by_cases c4:0≤A0
    ·rw [if_pos c4] at H;have c4b0:decide (0≤A0)=true:=decide_eq_true c4;clear c4;obtain ⟨y101,hy101⟩:∃ y_:List Bool,y_=(A2.set (A0:Int).toNat ((Int.tmod A3 3) == 0)):=⟨_,rfl⟩
     replace H:(laws_markBoolS.l0 k1 y101 (wrap64 (A3 + 1)) (wrap64 (A0 + 1)))=some (r1,r2):=by first|(rw [hy101];with_reducible exact H)|(have H2_:=(Option.bind_some _ _).symm.trans H;rw [hy101];with_reducible exact H2_)|(have H2_:=(Option.bind_some _ _).symm.trans H;with_reducible exact H2_)|with_reducible exact H|(rw [hy101];exact H)|exact H
     have Ny101:=Aside0.mk hy101;clear hy101;have H':=Aside0.mk H;clear H;obtain ⟨Ao6,co6,eo6⟩:=Kd.R_slice A1.out;subst eo6;have p5:0≤(A0:Int):=od;have q5:(A0:Int) < ((A2.length:Int):Int):=od;obtain ⟨go5,co5,eo5,gb5,gl5,cl5,HG5⟩:=Kd.R_form A1.out (by omega);(first|cases eo5|(injection eo5 with ea_ en_ ec_;(first|subst ea_|(injection ea_ with ea_;subst ea_));subst ec_;clear en_));have GB5:=Aside0.mk gb5;have GG5:=Aside0.mk HG5;clear gb5 gl5 HG5;have HMgo5:=Aside0.mk (show (P0_ go5∨w.heap.size≤go5) from (A1.out.1 _ rfl));obtain ⟨hx5_0,hf5_0⟩:=Kd.R_celln false A1.out (A0:Int) p5 q5;replace p5:=eq_true p5;replace q5:=eq_true q5;have HP7:=Kd.R_putg A1.out (A0:Int) ((Int.tmod A3 3) == 0);go_wp2_with (first|((with_reducible refine gate_store (t:=4) (p:=17) rfl ?_);refine store_event (t:=4) (p:=17) (v:=?vo_w8) (w1:=(wr.setCell ⟨go5,(A0:Int).toNat,none⟩ (.bool ((Int.tmod A3 3) == 0)))) ?hg ?ho ?hn ?hr ?_;(case ho=>rfl);(case hg=>rfl);(case hn=>rfl);(case hr=>first|(go_simp;done)|(go_simp;rfl));intro w8 hw;have hg:wr.grownBy w8 (some go5):=(by rw [hw];exact HP7.2);have hp_:Kd.R Kd.bool 4 w8 w0.heap.size (fun k_=>(P0_ k_∨w.heap.size≤k_)) (.slice (some ⟨go5,0,none⟩) A2.length co6) y101:=(by rw [hw,Ny101.out];exact HP7.1);clear HP7;replace HB:=Aside0.mk ((by rw [hw];exact below_set (HB.out) GB5.out:Below w0.heap.size w0 w8));replace HK:=Aside0.mk (Kept.of_grown (S:=(fun k_=>P0_ k_)) hg (tk HK) (fun k_ e_=>(A1.out.1 k_ e_)));replace A1:=Aside0.mk (hp_);clear hg hw hp_));go_roundg k1
     case measure=>have:=HK1.out;omega
     case rel=>exact ⟨(y101),(wrap64 (A3 + 1)),(wrap64 (A0 + 1)),(by first|rfl|(simp;done)|(simp [*];done)),(by first|rfl|(simp;done)|(simp [*];done)),H',⟨by have:=HK1.out;omega⟩,⟨ra A1⟩,⟨by exact tk HK⟩,⟨by exact tb HB⟩⟩
    ·rw [if_neg c4] at H;exact absurd H (by simp)
   ·rw [if_neg c3] at H;have c3b0:decide (A0 < (A2.length:Int))=false:=decide_eq_false c3;clear c3;simp only [Option.some.injEq,Prod.mk.injEq] at H;obtain ⟨rfl,rfl⟩:=H;obtain ⟨Ao9,co9,eo9⟩:=Kd.R_slice A1.out;subst eo9;go_wp2;go_ret;exact ⟨er,ra A1,tb HB,tk HK⟩
def laws_markIntS.l0:Nat→List Int→Int→Int→Option (Int × List Int)
 | 0,_,_,_=>none
 | k + 1,x0,x1,x5=>if x5 < (x0.length:Int) then (if 0≤x5 then (laws_markIntS.l0 k (x0.set (x5:Int).toNat x1) (wrap64 (x1 + 1)) (wrap64 (x5 + 1))) else (none)) else (some (x1,x0))
def laws_markIntS.f (k:Nat) (l0:List Int) (a1:Int):Option (Int × List Int):=laws_markIntS.l0 k l0 a1 0
set_option maxHeartbeats 8000000 in
set_option maxRecDepth 100000 in
theorem laws_markIntS.calls (k:Nat) (P0_:Nat→Prop) (u9000_:Value) (l0:List Int) (a1:Int) (r1:Int) (r2:List Int) (w0 w:World) (hB:Below w0.heap.size w0 w) (ho0:Kd.R (Kd.int .i64) 3 w w0.heap.size P0_ u9000_ l0) (h:laws_markIntS.f k l0 a1=some (r1,r2)) :
  Calls Try.prog 67 #[u9000_,.int .i64 a1] w fun e w'=>e = .returned (.int .i64 r1)∧Kd.R (Kd.int .i64) 3 w' w0.heap.size (fun k_=>(P0_ k_∨w.heap.size≤k_)) u9000_ r2∧Below w0.heap.size w0 w'∧Kept w w' (fun k_=>P0_ k_):=by
 have HO0:=Aside0.mk (show Kd.R (Kd.int .i64) 3 w w0.heap.size (fun k_=>(P0_ k_∨w.heap.size≤k_)) u9000_ l0 from Kd.R_mono ho0 (fun k_ hk=>(.inl hk)));have HK:=Aside0.mk (Kept.refl w (fun k_=>P0_ k_));have HW0:=Aside0.mk hB.size;have HB:=Aside0.mk hB;clear hB;have H:(laws_markIntS.l0 k l0 a1 0)=some (r1,r2):=h;clear h;have H':=Aside0.mk H;clear H
 go_enter Try.func67,Try.ntmps67
 go_wp2
 go_loopg [1,5] k (fun kq v1 v5 w'=>∃ (A2:List Int) (A3:Int) (A0:Int),v1 = .int .i64 A3∧v5 = .int .i64 A0∧Aside0 (laws_markIntS.l0 kq A2 A3 A0=some (r1,r2))∧Aside0 (kq≤k)∧Aside0 (Kd.R (Kd.int .i64) 3 w' w0.heap.size (fun k_=>(P0_ k_∨w.heap.size≤k_)) u9000_ A2)∧Aside0 (Kept w w' (fun k_=>P0_ k_))∧Aside0 (Below w0.heap.size w0 w'))
 case atStart=>exact ⟨(l0),(a1),(0),(by first|rfl|(simp;done)|(simp [*];done)),(by first|rfl|(simp;done)|(simp [*];done)),H',⟨Nat.le_refl _⟩,⟨ra HO0⟩,⟨by exact tk HK⟩,⟨by exact tb HB⟩⟩
 case round =>
  clear H';(try clear p2);obtain ⟨A2,A3,A0,rfl,rfl,HA,HK1,A1,HK,HB⟩:=hrel
  cases gk with
  | zero=>exact absurd HA.out (by simp [laws_markIntS.l0])
  | succ k1 =>
   have H:=HA.out;clear HA;simp only [laws_markIntS.l0] at H
   by_cases c3:A0 < (A2.length:Int)
   ·rw [if_pos c3] at H;have c3b0:decide (A0 < (A2.length:Int))=true:=decide_eq_true c3;clear c3
    by_cases c4:0≤A0
    ·rw [if_pos c4] at H;have c4b0:decide (0≤A0)=true:=decide_eq_true c4;clear c4;obtain ⟨y101,hy101⟩:∃ y_:List Int,y_=(A2.set (A0:Int).toNat A3):=⟨_,rfl⟩
     replace H:(laws_markIntS.l0 k1 y101 (wrap64 (A3 + 1)) (wrap64 (A0 + 1)))=some (r1,r2):=by first|(rw [hy101];with_reducible exact H)|(have H2_:=(Option.bind_some _ _).symm.trans H;rw [hy101];with_reducible exact H2_)|(have H2_:=(Option.bind_some _ _).symm.trans H;with_reducible exact H2_)|with_reducible exact H|(rw [hy101];exact H)|exact H
     have Ny101:=Aside0.mk hy101;clear hy101;have H':=Aside0.mk H;clear H;obtain ⟨Ao6,co6,eo6⟩:=Kd.R_slice A1.out;subst eo6;have p5:0≤(A0:Int):=od;have q5:(A0:Int) < ((A2.length:Int):Int):=od;obtain ⟨go5,co5,eo5,gb5,gl5,cl5,HG5⟩:=Kd.R_form A1.out (by omega);(first|cases eo5|(injection eo5 with ea_ en_ ec_;(first|subst ea_|(injection ea_ with ea_;subst ea_));subst ec_;clear en_));have GB5:=Aside0.mk gb5;have GG5:=Aside0.mk HG5;clear gb5 gl5 HG5;have HMgo5:=Aside0.mk (show (P0_ go5∨w.heap.size≤go5) from (A1.out.1 _ rfl));obtain ⟨hx5_0,hf5_0⟩:=Kd.R_celln 0 A1.out (A0:Int) p5 q5;replace p5:=eq_true p5;replace q5:=eq_true q5;have HP7:=Kd.R_putg A1.out (A0:Int) A3;go_wp2_with (first|((with_reducible refine gate_store (t:=3) (p:=15) rfl ?_);refine store_event (t:=3) (p:=15) (v:=?vo_w8) (w1:=(wr.setCell ⟨go5,(A0:Int).toNat,none⟩ (.int .i64 A3))) ?hg ?ho ?hn ?hr ?_;(case ho=>rfl);(case hg=>rfl);(case hn=>rfl);(case hr=>first|(go_simp;done)|(go_simp;rfl));intro w8 hw;have hg:wr.grownBy w8 (some go5):=(by rw [hw];exact HP7.2);have hp_:Kd.R (Kd.int .i64) 3 w8 w0.heap.size (fun k_=>(P0_ k_∨w.heap.size≤k_)) (.slice (some ⟨go5,0,none⟩) A2.length co6) y101:=(by rw [hw,Ny101.out];exact HP7.1);clear HP7;replace HB:=Aside0.mk ((by rw [hw];exact below_set (HB.out) GB5.out:Below w0.heap.size w0 w8));replace HK:=Aside0.mk (Kept.of_grown (S:=(fun k_=>P0_ k_)) hg (tk HK) (fun k_ e_=>(A1.out.1 k_ e_)));replace A1:=Aside0.mk (hp_);clear hg hw hp_));go_roundg k1
     case measure=>have:=HK1.out;omega
     case rel=>exact ⟨(y101),(wrap64 (A3 + 1)),(wrap64 (A0 + 1)),(by first|rfl|(simp;done)|(simp [*];done)),(by first|rfl|(simp;done)|(simp [*];done)),H',⟨by have:=HK1.out;omega⟩,⟨ra A1⟩,⟨by exact tk HK⟩,⟨by exact tb HB⟩⟩
    ·rw [if_neg c4] at H;exact absurd H (by simp)
   ·rw [if_neg c3] at H;have c3b0:decide (A0 < (A2.length:Int))=false:=decide_eq_false c3;clear c3;simp only [Option.some.injEq,Prod.mk.injEq] at H;obtain ⟨rfl,rfl⟩:=H;obtain ⟨Ao9,co9,eo9⟩:=Kd.R_slice A1.out;subst eo9;go_wp2;go_ret;exact ⟨er,ra A1,tb HB,tk HK⟩
end Go.Proofs.Ytlpfmhikahlcoaa.G
namespace Go.Proofs.Ytlpfmhikahlcoaa.G
open Go.RowKit Go.Proofs.YtlpfmhikahlcoaaW.PrintWords Go.Proofs.YtlpfmhikahlcoaaW.PrintLast Go.Proofs.YtlpfmhikahlcoaaW.PrintMore
attribute [local go_sem] max2_int min2_int max_two min_two max_three min_three max_four min_four
set_option linter.unusedVariables false
set_option linter.unusedSimpArgs false
theorem rd108 (l:List S108) (i:Int):rd_T108 l i=l.getD i.toNat z108:=rfl
theorem set_rd (l:List S108) (i:Int) (x:S108) (h:i.toNat < l.length):rd_T108 (l.set i.toNat x) i=x:=by
 rw [rd108,List.getD_eq_getElem?_getD,List.getElem?_set_self h]
 rfl
theorem R_only {W:World} {b:Nat} {ok ok':Nat→Prop} {v:Value} {xs:List Int} (h:Kd.R (Kd.int .i64) 3 W b ok v xs) (hok:∀ k,v.ownBlock=some k→ok' k):Kd.R (Kd.int .i64) 3 W b ok' v xs:=by
 obtain ⟨h0,inner,ho,hr⟩:=h
 exact ⟨hok,inner,ho,hr.1,fun j p hj=>hr.2 j p hj⟩
theorem win_new {w W W1:World} {v v0 vx:Value} {l l0:List S108} {ok0:Nat→Prop} {g:Nat} {o:Obj} (ho:Kd.S k108 108 W1 W.heap.size (fun _=>True) v l) (hn:Kd.N k108 108 W w.heap.size ok0 v0 l0) (hb:Below W.heap.size W W1) (hk:W.heap[g]? = some o) (h0:w.heap.size≤W.heap.size) (hx:∀ k,vx.ownBlock=some k→k < W.heap.size) :
  ∃ b:Nat,Aside0 (Kd.S k108 108 W1 w.heap.size (fun k=>b≤k) v l)∧Aside0 (Kd.N k108 108 W1 w.heap.size (fun k=>ok0 k∧k < b) v0 l0)∧Aside0 (g < b∧w.heap.size≤b∧(∀ k,vx.ownBlock=some k→k < b)∧∀ k,v0.ownBlock=some k→k < b) :=
 ⟨W.heap.size,⟨Kd.S_lower (Kd.S_mono (Kd.S_bound ho) (fun k hk=>hk.2.1)) h0⟩,⟨Kd.N_below (Kd.N_bound hn) hb⟩,⟨blk_lt hk,h0,hx,Kd.N_lt hn⟩⟩
theorem pick_vals {W:World} {base g n cap:Nat} {ok:Nat→Prop} {l:List S108} (h:Kd.S k108 108 W base ok (.slice (some ⟨g,0,none⟩) n cap) l) (i:Int) (h0:0≤i) (h1:i < n) :
  ∃ v0:Value,W.cell? ⟨g,i.toNat * 2,none⟩=some v0∧Kd.R (Kd.int .i64) 3 W base (fun k=>v0.ownBlock=some k) v0 (rd_T108 l i).f0∧(∀ k,v0.ownBlock=some k→ok k) ∧
   ∀ (W':World) (okr:Nat→Prop) (r:List Int),Kd.R (Kd.int .i64) 3 W' base okr v0 r→Kept W W' (fun k=>v0.ownBlock=some k)→Kd.S k108 108 W' base ok (.slice (some ⟨g,0,none⟩) n cap) (l.set i.toNat ⟨r,(rd_T108 l i).f1⟩):=by
 obtain ⟨oki,c,hcl,hM,hcc,hoki,hH⟩:=Kd.S_lend h z108 i h0 h1
 obtain ⟨v0,rfl,hR⟩:=k108_openM hM
 refine ⟨v0,hcc 0 _ rfl,R_only hR (fun k hk=>hk),fun k hk=>(hoki k (hR.1 k hk)).1,fun W' okr r hr hk=>?_⟩
 have hH2:=Kd.H_kept hH hk (fun k _ hn he=>hn (hR.1 k he))
 exact Kd.H_back hH2 (k108_mkM W' base oki ⟨r,(rd_T108 l i).f1⟩ (R_only hr hR.1)) (fun _ hk=>hk)
theorem pick_val {W:World} {base g n cap:Nat} {ok:Nat→Prop} {l:List S108} (h:Kd.S k108 108 W base ok (.slice (some ⟨g,0,none⟩) n cap) l) (i:Int) (h0:0≤i) (h1:i < n) (a:Int) :
  W.cell? ⟨g,i.toNat * 2 + 1,none⟩=some (.int .i64 (rd_T108 l i).f1)∧W.frozen? ⟨g,i.toNat * 2 + 1,none⟩=false ∧
   Kd.S k108 108 (W.setCell ⟨g,i.toNat * 2 + 1,none⟩ (.int .i64 a)) base ok (.slice (some ⟨g,0,none⟩) n cap) (l.set i.toNat ⟨(rd_T108 l i).f0,a⟩)∧W.grownBy (W.setCell ⟨g,i.toNat * 2 + 1,none⟩ (.int .i64 a)) (some g):=by
 obtain ⟨oki,c,hcl,hM,hcc,hfr,hoki,hH⟩:=Kd.S_elem h z108 i h0 h1
 obtain ⟨v0,rfl,hR⟩:=k108_openM hM
 have hs:=Kd.S_seg (d:=k108) (okg:=fun _=>False) (okp:=oki) (seg:=[.int .i64 a]) (j:=1) (x':=(⟨(rd_T108 l i).f0,a⟩:S108)) (Kd.H_mono hH (fun k hk=>⟨hk,fun h=>h⟩)) h0 h1 (show 1 + 1≤2 from Nat.le_refl _) (k108_mkM W base oki ⟨(rd_T108 l i).f0,a⟩ hR) (fun k hk=>Or.inl hk) (fun k hk=>hk.elim)
 exact ⟨hcc 1 _ rfl,hfr 1,hs.1,hs.2⟩
def mpF:Nat→List S108→Int→Int→Option (Int × List S108)
 | 0,_,_,_=>none
 | k + 1,l,a,i=>if i < (l.length:Int) then (if 0≤i then (laws_markIntS.f k (rd_T108 l i).f0 a).bind fun r=>mpF k (l.set i.toNat ⟨r.2,r.1⟩) (wrap64 (r.1 + 1)) (wrap64 (i + 1)) else none) else some (a,l)
set_option maxHeartbeats 8000000 in
set_option maxRecDepth 100000 in
theorem markPick_calls (k:Nat) (ok:Nat→Prop) (v:Value) (l0:List S108) (a1:Int) (r1:Int) (r2:List S108) (w0 w:World) (hB:Below w0.heap.size w0 w) (hS:Kd.S k108 108 w w0.heap.size ok v l0) (h:mpF k l0 a1 0=some (r1,r2)) :
  Calls Try.prog 48 #[v,.int .i64 a1] w fun e w'=>e = .returned (.int .i64 r1)∧Kd.S k108 108 w' w0.heap.size ok v r2∧Below w0.heap.size w0 w'∧Kept w w' ok:=by
 obtain ⟨A,n,cap,rfl⟩:∃ A n cap,v = .slice A n cap:=by obtain ⟨A,c,e⟩:=Kd.S_slice hS;exact ⟨A,_,c,e⟩
 have HS:=Aside0.mk hS
 have HB:=Aside0.mk hB
 have HF:=Aside0.mk h
 have HK:=Aside0.mk (Kept.refl w ok)
 clear hS hB h
 go_enter Try.func48,Try.ntmps48
 go_wp2_with (fail)
 go_loopg [1,5] k (fun kq v1 v5 wr=>∃ (a i:Int) (l:List S108),v1 = .int .i64 a∧v5 = .int .i64 i∧Aside0 (mpF kq l a i=some (r1,r2))∧Aside0 (kq≤k)∧Aside0 (Kd.S k108 108 wr w0.heap.size ok (.slice A n cap) l)∧Aside0 (Below w0.heap.size w0 wr)∧Aside0 (Kept w wr ok))
 case atStart=>exact ⟨a1,0,l0,rfl,rfl,HF,⟨Nat.le_refl _⟩,HS,HB,HK⟩
 case round =>
  clear HF HS HB HK
  obtain ⟨a,i,l,rfl,rfl,HA,HK1,HS,HB,HK⟩:=hrel
  cases gk with
  | zero=>exact absurd HA.out (by simp [mpF])
  | succ k2 =>
   have H:=HA.out
   clear HA
   simp only [mpF] at H
   have hn:=(Kd.S_reads' HS.out).1
   have HN:=Aside0.mk hn
   by_cases c3:i < (l.length:Int)
   ·rw [if_pos c3] at H
    by_cases c4:0≤i
    case neg=>rw [if_neg c4] at H;cases H
    rw [if_pos c4] at H
    obtain ⟨⟨m,r0⟩,hm,H⟩:=Option.bind_eq_some_iff.1 H
    have HMK:=Aside0.mk hm
    have H':=Aside0.mk H
    clear hm H
    have c5:i < (n:Int):=by omega
    have d3:decide (i < (n:Int))=true:=decide_eq_true c5
    have d4:decide (0≤i)=true:=decide_eq_true c4
    obtain ⟨ag,_,_,e_,_⟩:=at_T108 (Kd.S_reads' HS.out).2.2 i c4 (by omega)
    cases e_
    obtain ⟨g,rfl⟩:=Kd.R_head (Kd.S_R HS.out)
    obtain ⟨v0,hx0,hr0,hok,hst⟩:=pick_vals HS.out i c4 c5
    have HR0:=Aside0.mk hr0
    have HST:=Aside0.mk hst
    have HOK:=Aside0.mk hok
    have C4:=Aside0.mk c4
    have C5:=Aside0.mk c5
    clear hr0 hst hok hn
    replace c4:=eq_true c4
    replace c5:=eq_true c5
    have had:((⟨g,0,none⟩:Addr).add (i.toNat * 2))=⟨g,i.toNat * 2,none⟩:=by rw [add_plain]
    go_upto_region 5 with (first|((with_reducible refine gate_callee (f:=67) rfl ?_);(try (refine gate_guard (by rfl) ?_;dsimp only));refine goesL_ (some 18) rfl rfl Try.func67 (by kernel_rfl) rfl #[v0,.int .i64 a] rfl (by (try simp only [List.map_toArray,List.map_cons,List.map_nil]);first|done|rfl) ?_;(with_reducible refine (laws_markIntS.calls k2 (fun k=>v0.ownBlock=some k) v0 (rd_T108 l i).f0 a m r0 w0 _ HB.out HR0.out HMK.out).mono ?_);rintro e w4 ⟨rfl,ho,hb,hk⟩;refine ⟨_,rfl,?_⟩;have HS4:=Aside0.mk (HST.out w4 _ r0 ho hk);have HB4:=Aside0.mk hb;have HK4:=Aside0.mk (Kept.then_ HK.out hk (fun k hk=>Or.inl (HOK.out k hk)));clear ho hb hk hx0 HS HST HR0))
    obtain ⟨hx1,hf1,hs1,hg1⟩:=pick_val HS4.out i C4.out C5.out m
    rw [set_rd l i _ (by have:=C4.out;have:=C5.out;have:=HN.out;omega),List.set_set] at hs1
    go_wp2
    go_roundg k2
    case measure=>have:=HK1.out;omega
    case rel=>exact ⟨wrap64 (m + 1),wrap64 (i + 1),_,rfl,rfl,H',⟨by have:=HK1.out;omega⟩,⟨hs1⟩,⟨pw_below_grown HB4.out (some g) HB4.out.size hg1 (fun k hk=>by injection hk with hk;subst hk;exact Kd.S_base HS4.out _ rfl)⟩,⟨Kept.of_grown hg1 HK4.out (fun k hk=>Or.inl (by injection hk with hk;subst hk;exact (Kd.S_R HS4.out).1 _ rfl))⟩⟩
   ·rw [if_neg c3] at H
    obtain ⟨rfl,rfl⟩:a=r1∧l=r2:=by simpa using H
    have d3:decide (i < (n:Int))=false:=decide_eq_false (by omega)
    have d4:decide (i < (l.length:Int))=false:=decide_eq_false (by omega)
    clear c3 H hn
    go_wp2
    go_ret
    exact ⟨rfl,HS.out,HB.out,HK.out⟩
end Go.Proofs.Ytlpfmhikahlcoaa.G
namespace Go.Proofs.Ytlpfmhikahlcoaa.G
open Go.Proofs.Ytlpfmhikahlcoaa.Sh
open Go.RowKit Go.Proofs.YtlpfmhikahlcoaaW.PrintWords Go.Proofs.YtlpfmhikahlcoaaW.PrintLast Go.Proofs.YtlpfmhikahlcoaaW.PrintMore
attribute [local go_sem] max2_int min2_int max_two min_two max_three min_three max_four min_four
set_option linter.unusedVariables false
set_option linter.unusedSimpArgs false
def laws_markPickS.f (k:Nat) (l0:List (S108)) (a1:Int):Option (Int × List (S108)):=mpF k l0 a1 0
theorem laws_markPickS.calls (k:Nat) (ok:Nat→Prop) (v:Value) (l0:List S108) (a1:Int) (r1:Int) (r2:List S108) (w0 w:World) (hB:Below w0.heap.size w0 w) (hS:Kd.S k108 108 w w0.heap.size ok v l0) (h:laws_markPickS.f k l0 a1=some (r1,r2)) :
  Calls Try.prog 48 #[v,.int .i64 a1] w fun e w'=>e = .returned (.int .i64 r1)∧Kd.S k108 108 w' w0.heap.size ok v r2∧Below w0.heap.size w0 w'∧Kept w w' ok:=markPick_calls k ok v l0 a1 r1 r2 w0 w hB hS h
def laws_szTable.f (A3:Int) (A0:ByteArray) (a1:Int):Option (Int):=if (wrap64 (a1 - (A0.size:Int))) < 0 then (some (-1)) else (some (wrap64 (a1 - (A0.size:Int))))
set_option maxHeartbeats 8000000 in
set_option maxRecDepth 100000 in
theorem laws_szTable.calls (A3:Int) (A0:ByteArray) (a1:Int) (r:Int) (w:World) (h:laws_szTable.f A3 A0 a1=some r) :
  Calls Try.prog 15 #[.agg #[.int .i64 A3,.string A0],.int .i64 a1] w fun e w'=>e = .returned (.int .i64 r)∧Below w.heap.size w w':=by
 have hu24:=Try.underlying24;have HB:=Aside0.mk (Below.refl w.heap.size w);have H:(if (wrap64 (a1 - (A0.size:Int))) < 0 then (some (-1)) else (some (wrap64 (a1 - (A0.size:Int)))))=some r:=h;clear h
 by_cases c3:(wrap64 (a1 - (A0.size:Int))) < 0
 ·rw [if_pos c3] at H;have c3b0:decide ((wrap64 (a1 - (A0.size:Int))) < 0)=true:=decide_eq_true c3;clear c3;obtain rfl:=os H
  go_enter Try.func15,Try.ntmps15
  go_wp2_with (first|((with_reducible refine gate_dst (N:=2) rfl ?_);refine bx (N:=2) (cs:=#[.int .i64 A3,.string A0]) (t:=24) ?_;intro A1 hg w4 hbox hb;have A2:=Aside0.mk (hbox);have A4:=Aside0.mk ((by rw [hg];exact (below_size (tb HB)):w.heap.size≤A1));have A5:=Aside0.mk ((by rw [hg];exact (below_size (tb HB)):w.heap.size≤A1));replace HB:=Aside0.mk (below_step (tb HB) hb);clear hb hbox hg;have hcz5__:=c2_ A2;have hfz5__:=f_ A2));go_ret;exact ⟨er,tb HB⟩
 ·rw [if_neg c3] at H;have c3b0:decide ((wrap64 (a1 - (A0.size:Int))) < 0)=false:=decide_eq_false c3;clear c3;obtain rfl:=os H
  go_enter Try.func15,Try.ntmps15
  go_wp2_with (first|((with_reducible refine gate_dst (N:=2) rfl ?_);refine bx (N:=2) (cs:=#[.int .i64 A3,.string A0]) (t:=24) ?_;intro A1 hg w6 hbox hb;have A2:=Aside0.mk (hbox);have A4:=Aside0.mk ((by rw [hg];exact (below_size (tb HB)):w.heap.size≤A1));have A5:=Aside0.mk ((by rw [hg];exact (below_size (tb HB)):w.heap.size≤A1));replace HB:=Aside0.mk (below_step (tb HB) hb);clear hb hbox hg;have hcz7__:=c2_ A2;have hfz7__:=f_ A2));go_ret;exact ⟨er,tb HB⟩
def laws_toBoolS.l0:Nat→List Bool→List Bool→Int→Option (List Bool)
 | 0,_,_,_=>none
 | k + 1,x0,x3,x4=>if x4 < (x0.length:Int) then (if 0≤x4 then (if x4 < (x3.length:Int) then (laws_toBoolS.l0 k x0 (x3.set (x4:Int).toNat (rdOf false x0 x4)) (wrap64 (x4 + 1))) else (none)) else (none)) else (some x3)
def laws_toBoolS.f (k:Nat) (l0:List Bool):Option (List Bool):=if 0≤(l0.length:Int) then (if ((l0.length:Int):Int).toNat≤281474976710656 then (laws_toBoolS.l0 k l0 (List.replicate ((l0.length:Int):Int).toNat false) 0) else (none)) else (none)
set_option maxHeartbeats 8000000 in
set_option maxRecDepth 100000 in
theorem laws_toBoolS.calls (k:Nat) (A0:Option Addr) (c0:Nat) (l0:List Bool) (r:List Bool) (w:World) (hr0:Kd.C Kd.bool w A0 l0.length l0) (hc0:l0.length≤c0) (h:laws_toBoolS.f k l0=some r) :
  Calls Try.prog 17 #[.slice A0 l0.length c0] w fun e w'=>∃ v0_:Value,e = .returned (v0_)∧Kd.R Kd.bool 4 w' w.heap.size (fun _=>True) v0_ r∧Below w.heap.size w w':=by
 have HR0:=Aside0.mk hr0;have HC0:=Aside0.mk hc0;clear hr0 hc0;have HB:=Aside0.mk (Below.refl w.heap.size w);have H:(if 0≤(l0.length:Int) then (if ((l0.length:Int):Int).toNat≤281474976710656 then (laws_toBoolS.l0 k l0 (List.replicate ((l0.length:Int):Int).toNat false) 0) else (none)) else (none))=some r:=h;clear h
 by_cases c2:0≤(l0.length:Int)
 ·rw [if_pos c2] at H;have c2b0:=eq_true c2;have c2b1:decide (0≤(l0.length:Int))=true:=decide_eq_true c2;clear c2
  by_cases c3:((l0.length:Int):Int).toNat≤281474976710656
  ·rw [if_pos c3] at H;have c3b0:=eq_true c3;have c3b1:decide (((l0.length:Int):Int).toNat≤281474976710656)=true:=decide_eq_true c3;clear c3;obtain ⟨y101,hy101⟩:∃ y_:List Bool,y_=(List.replicate ((l0.length:Int):Int).toNat false):=⟨_,rfl⟩
   replace H:(laws_toBoolS.l0 k l0 y101 0)=some r:=by first|(rw [hy101];with_reducible exact H)|(have H2_:=(Option.bind_some _ _).symm.trans H;rw [hy101];with_reducible exact H2_)|(have H2_:=(Option.bind_some _ _).symm.trans H;with_reducible exact H2_)|with_reducible exact H|(rw [hy101];exact H)|exact H
   have Ny101:=Aside0.mk hy101;clear hy101;have H':=Aside0.mk H;clear H
   go_enter Try.func17,Try.ntmps17
   go_wp2_with (first|((with_reducible refine gate_dst (N:=7) rfl ?_);refine Kd.R_make Kd.bool _ 4 rfl (N:=7) rfl 22 _ _ rfl (l0.length:Int) rfl rfl Try.underlying22 (.bool false) 1 info4 rfl (by decide) (by omega) false (ok:=fun _=>True) (okp:=fun _=>True) rfl (fun _ hk=>hk) trivial (od) (Nat.le_trans (Nat.mul_le_mul_right _ (od:(l0.length:Int).toNat≤281474976710656)) (by omega)) (Below.refl _ _) (Nat.le_refl _) ?_;intro v102 w4 ho5 hb hg_ hnew_;clear hg_ hnew_;(first|rw [← Ny101.out] at ho5|(simp only [Int.reduceToNat] at ho5;rw [← Ny101.out] at ho5));have A4:=Aside0.mk (Kd.R_lower ho5 (below_size (tb HB)));replace HB:=Aside0.mk (below_step (tb HB) hb);clear hb ho5))
   go_loopg [4] k (fun kq v4 w'=>∃ (A2:List Bool) (A1:Int),v4 = .int .i64 A1∧Aside0 (laws_toBoolS.l0 kq l0 A2 A1=some r)∧Aside0 (kq≤k)∧Aside0 (Kd.R Kd.bool 4 w' w.heap.size (fun _=>True) v102 A2)∧Aside0 (Below w.heap.size w w'))
   case atStart=>exact ⟨(y101),(0),(by first|rfl|(simp;done)|(simp [*];done)),H',⟨Nat.le_refl _⟩,⟨ra A4⟩,⟨by exact tb HB⟩⟩
   case round =>
    clear H';(try clear c1);(try clear c2);(try clear c2b0);(try clear c2b1);(try clear p2);(try clear c3);(try clear c3b0);(try clear c3b1);obtain ⟨A2,A1,rfl,HA,HK1,A3,HB⟩:=hrel
    cases gk with
    | zero=>exact absurd HA.out (by simp [laws_toBoolS.l0])
    | succ k1 =>
     have H:=HA.out;clear HA;simp only [laws_toBoolS.l0] at H
     by_cases c6:A1 < (l0.length:Int)
     ·rw [if_pos c6] at H;have c6b0:decide (A1 < (l0.length:Int))=true:=decide_eq_true c6;clear c6
      by_cases c7:0≤A1
      ·rw [if_pos c7] at H;have c7b0:decide (0≤A1)=true:=decide_eq_true c7;clear c7
       by_cases c8:A1 < (A2.length:Int)
       ·rw [if_pos c8] at H;have c8b0:decide (A1 < (A2.length:Int))=true:=decide_eq_true c8;clear c8;obtain ⟨y105,hy105⟩:∃ y_:List Bool,y_=(A2.set (A1:Int).toNat (rdOf false l0 A1)):=⟨_,rfl⟩
        replace H:(laws_toBoolS.l0 k1 l0 y105 (wrap64 (A1 + 1)))=some r:=by first|(rw [hy105];with_reducible exact H)|(have H2_:=(Option.bind_some _ _).symm.trans H;rw [hy105];with_reducible exact H2_)|(have H2_:=(Option.bind_some _ _).symm.trans H;with_reducible exact H2_)|with_reducible exact H|(rw [hy105];exact H)|exact H
        have Ny105:=Aside0.mk hy105;clear hy105;have H':=Aside0.mk H;clear H;have p104:0≤(A1:Int):=od;have q104:A1 < (l0.length:Int):=od;obtain ⟨ad104,e104,hx104_0⟩:=Kd.at_bool HR0.out A1 p104 q104;cases e104;replace hx104_0:=ct HB hx104_0;replace p104:=eq_true p104;replace q104:=eq_true q104;have p9:0≤(A1:Int):=od;have q9:(A1:Int) < ((A2.length:Int):Int):=od;obtain ⟨go9,co9,eo9,gb9,gl9,cl9,HG9⟩:=Kd.R_form A3.out (by omega);(first|cases eo9|(injection eo9 with ea_ en_ ec_;(first|subst ea_|(injection ea_ with ea_;subst ea_));subst ec_;clear en_));have GB9:=Aside0.mk gb9;have GG9:=Aside0.mk HG9;clear gb9 gl9 HG9;obtain ⟨hx9_0,hf9_0⟩:=Kd.R_celln false A3.out (A1:Int) p9 q9;replace p9:=eq_true p9;replace q9:=eq_true q9;have HP10:=Kd.R_putg A3.out (A1:Int) (rdOf false l0 A1);go_wp2_with (first|((with_reducible refine gate_store (t:=4) (p:=20) rfl ?_);refine store_event (t:=4) (p:=20) (v:=?vo_w11) (w1:=(wr.setCell ⟨go9,(A1:Int).toNat,none⟩ (.bool (rdOf false l0 A1)))) ?hg ?ho ?hn ?hr ?_;(case ho=>rfl);(case hg=>rfl);(case hn=>rfl);(case hr=>first|(go_simp;done)|(go_simp;rfl));intro w11 hw;have hg:wr.grownBy w11 (some go9):=(by rw [hw];exact HP10.2);have hp_:Kd.R Kd.bool 4 w11 w.heap.size (fun _=>True) (.slice (some ⟨go9,0,none⟩) A2.length co9) y105:=(by rw [hw,Ny105.out];exact HP10.1);clear HP10;replace A3:=Aside0.mk (hp_);replace HB:=Aside0.mk ((by rw [hw];exact below_set (HB.out) GB9.out:Below w.heap.size w w11));clear hg hw hp_));go_roundg k1
        case measure=>have:=HK1.out;omega
        case rel=>exact ⟨(y105),(wrap64 (A1 + 1)),(by first|rfl|(simp;done)|(simp [*];done)),H',⟨by have:=HK1.out;omega⟩,⟨ra A3⟩,⟨by exact tb HB⟩⟩
       ·rw [if_neg c8] at H;exact absurd H (by simp)
      ·rw [if_neg c7] at H;exact absurd H (by simp)
     ·rw [if_neg c6] at H;have c6b0:decide (A1 < (l0.length:Int))=false:=decide_eq_false c6;clear c6;obtain rfl:=os H;go_wp2;go_ret;exact ⟨_,er,ra A3,tb HB⟩
  ·rw [if_neg c3] at H;exact absurd H (by simp)
 ·rw [if_neg c2] at H;exact absurd H (by simp)
def laws_toTable.f (A3:Int) (A4:ByteArray):Option (Int × ByteArray):=some (A3,A4)
set_option maxHeartbeats 8000000 in
set_option maxRecDepth 100000 in
theorem laws_toTable.calls (A3:Int) (A4:ByteArray) (r1:Int) (r2:ByteArray) (w:World) (h:laws_toTable.f A3 A4=some (r1,r2)) :
  Calls Try.prog 18 #[.agg #[.int .i64 A3,.string A4]] w fun e w'=>e = .returned (.agg #[.int .i64 r1,.string r2])∧Below w.heap.size w w':=by
 have hu24:=Try.underlying24;have hu29:=Try.underlying29;have HB:=Aside0.mk (Below.refl w.heap.size w);have H:(some (A3,A4))=some (r1,r2):=h;clear h;simp only [Option.some.injEq,Prod.mk.injEq] at H;obtain ⟨rfl,rfl⟩:=H
 go_enter Try.func18,Try.ntmps18
 go_wp2_with (first|((with_reducible refine gate_dst (N:=1) rfl ?_);refine bx (N:=1) (cs:=#[.int .i64 A3,.string A4]) (t:=24) ?_;intro A0 hg w2 hbox hb;have A1:=Aside0.mk (hbox);have GW101:=Aside0.mk ((by rw [hg];exact (below_size (tb HB)):w.heap.size≤A0));have GE101:=Aside0.mk ((by rw [hg];exact (below_size (tb HB)):w.heap.size≤A0));replace HB:=Aside0.mk (below_step (tb HB) hb);clear hb hbox hg)|((with_reducible refine gate_dst (N:=2) rfl ?_);refine bx (N:=2) (cs:=#[.int .i64 0,.string (⟨#[]⟩:ByteArray)]) (t:=29) ?_;intro A2 hg w3 hbox hb;have A6:=Aside0.mk (hbox);have GW102:=Aside0.mk ((by rw [hg];exact (below_size (tb HB)):w.heap.size≤A2));have GE102:=Aside0.mk ((by rw [hg];exact (below_size (tb HB)):w.heap.size≤A2));replace HB:=Aside0.mk (below_step (tb HB) hb);have A8:=Aside0.mk ((by rw [hg];exact Nat.ne_of_lt (blk_lt (g:=A0) (o := .cells #[.int .i64 A3,.string A4] 24 (0,0)) (dr A1)):A0≠A2));have A9:=Aside0.mk ((by rw [hg];exact Nat.ne_of_gt (blk_lt (g:=A0) (o := .cells #[.int .i64 A3,.string A4] 24 (0,0)) (dr A1)):A2≠A0));replace A1:=Aside0.mk (blk_below (g:=A0) (o := .cells #[.int .i64 A3,.string A4] 24 (0,0)) (dr A1) hb);clear hb hbox hg)|((with_reducible refine gate_dst (N:=3) rfl ?_);refine bx (N:=3) (cs:=#[.int .i64 0,.string (⟨#[]⟩:ByteArray)]) (t:=29) ?_;intro A7 hg w4 hbox hb;have Ad:=Aside0.mk (hbox);have GW103:=Aside0.mk ((by rw [hg];exact (below_size (tb HB)):w.heap.size≤A7));have GE103:=Aside0.mk ((by rw [hg];exact (below_size (tb HB)):w.heap.size≤A7));replace HB:=Aside0.mk (below_step (tb HB) hb);have Aa:=Aside0.mk ((by rw [hg];exact Nat.ne_of_lt (blk_lt (g:=A0) (o := .cells #[.int .i64 A3,.string A4] 24 (0,0)) (dr A1)):A0≠A7));have Ab:=Aside0.mk ((by rw [hg];exact Nat.ne_of_gt (blk_lt (g:=A0) (o := .cells #[.int .i64 A3,.string A4] 24 (0,0)) (dr A1)):A7≠A0));replace A1:=Aside0.mk (blk_below (g:=A0) (o := .cells #[.int .i64 A3,.string A4] 24 (0,0)) (dr A1) hb);have A5:=Aside0.mk ((by rw [hg];exact Nat.ne_of_lt (blk_lt (g:=A2) (o := .cells #[.int .i64 0,.string (⟨#[]⟩:ByteArray)] 29 (0,0)) (dr A6)):A2≠A7));have Ac:=Aside0.mk ((by rw [hg];exact Nat.ne_of_gt (blk_lt (g:=A2) (o := .cells #[.int .i64 0,.string (⟨#[]⟩:ByteArray)] 29 (0,0)) (dr A6)):A7≠A2));replace A6:=Aside0.mk (blk_below (g:=A2) (o := .cells #[.int .i64 0,.string (⟨#[]⟩:ByteArray)] 29 (0,0)) (dr A6) hb);clear hb hbox hg;have hnb5:=A8.out;have hnc5:=A9.out;have hnb6:=Aa.out;have hnc6:=Ab.out;have hcz7__:=c2_ A1;have hfz7__:=f_ A1;have hnb8:=Ac.out;have hnc8:=A5.out;have hcz9__:=c2_ Ad;have hfz9__:=f_ Ad;have hcz10__:=c2_ A6;have hfz10__:=f_ A6));refine bodyPost_ret (results_cell_row rfl _ _ A2 29 #[.int .i64 A3,.string A4] (0,0) _ rfl (by (with_reducible repeat (first|refine blk_drewN ?_ _|refine blk_drew ?_|refine blk_alloc ?_ _));refine blk_put (cs:=#[.int .i64 A3,.string (⟨#[]⟩:ByteArray)]) ?_ 1 _ rfl;(with_reducible repeat (first|refine blk_drewN ?_ _|refine blk_drew ?_|refine blk_alloc ?_ _));refine blk_put (cs:=#[.int .i64 0,.string (⟨#[]⟩:ByteArray)]) ?_ 0 _ rfl;(with_reducible repeat (first|refine blk_drewN ?_ _|refine blk_drew ?_|refine blk_alloc ?_ _));refine blk_far ?_ A5.out _;(with_reducible repeat (first|refine blk_drewN ?_ _|refine blk_drew ?_|refine blk_alloc ?_ _));refine blk_far ?_ A5.out _;(with_reducible repeat (first|refine blk_drewN ?_ _|refine blk_drew ?_|refine blk_alloc ?_ _));exact A6.out) Try.underlying29 rfl (by kernel_rfl)) rfl ?_;exact ⟨er,tb HB⟩
def spec_l01In.f (a0:Int) (a1:Int) (a2:Int):Option (Bool):=if a0 ≥ a1 then (some (decide (a0≤a2))) else (some false)
set_option maxHeartbeats 8000000 in
set_option maxRecDepth 100000 in
theorem spec_l01In.calls (a0:Int) (a1:Int) (a2:Int) (r:Bool) (w:World) (h:spec_l01In.f a0 a1 a2=some r) :
  Calls Try.prog 63 #[.int .i64 a0,.int .i64 a1,.int .i64 a2] w fun e w'=>e = .returned (.bool r)∧Drawn0 w w':=by
 have H:(if a0 ≥ a1 then (some (decide (a0≤a2))) else (some false))=some r:=h;clear h
 by_cases c4:a0 ≥ a1
 ·rw [if_pos c4] at H;have c4b0:decide (a1≤a0)=true:=decide_eq_true c4;clear c4;obtain rfl:=os H
  go_enter Try.func63,Try.ntmps63
  go_wp2;go_ret;exact ⟨e1,dn⟩
 ·rw [if_neg c4] at H;have c4b0:decide (a1≤a0)=false:=decide_eq_false c4;clear c4;obtain rfl:=os H
  go_enter Try.func63,Try.ntmps63
  go_wp2;go_ret;exact ⟨e1,dn⟩
def spec_l01Pow2.l0:Nat→Int→Int→Int→Option (Int)
 | 0,_,_,_=>none
 | k + 1,x0,x3,x4=>if x4 < x0 then (spec_l01Pow2.l0 k x0 (wrap64 (2 * x3)) (wrap64 (x4 + 1))) else (some x3)
def spec_l01Pow2.f (k:Nat) (a0:Int):Option (Int):=spec_l01Pow2.l0 k a0 1 0
set_option maxHeartbeats 8000000 in
set_option maxRecDepth 100000 in
theorem spec_l01Pow2.calls (k:Nat) (a0:Int) (r:Int) (w:World) (h:spec_l01Pow2.f k a0=some r) :
  Calls Try.prog 119 #[.int .i64 a0] w fun e w'=>e = .returned (.int .i64 r)∧Drawn0 w w':=by
 have H:(spec_l01Pow2.l0 k a0 1 0)=some r:=h;clear h;have H':=Aside0.mk H;clear H
 go_enter Try.func119,Try.ntmps119
 go_wp2
 go_loopg [3,4] k (fun kq v3 v4 w'=>∃ (A1:Int) (A0:Int),v3 = .int .i64 A1∧v4 = .int .i64 A0∧Aside0 (spec_l01Pow2.l0 kq a0 A1 A0=some r)∧Aside0 (kq≤k)∧Drawn0 w w')
 case atStart=>exact ⟨(1),(0),(by first|rfl|(simp;done)|(simp [*];done)),(by first|rfl|(simp;done)|(simp [*];done)),H',⟨Nat.le_refl _⟩,by repeat (first|exact Drawn0.refl _|apply Drawn0.step)⟩
 case round =>
  clear H';(try clear c1);obtain ⟨A1,A0,rfl,rfl,HA,HK1,⟨m1,rfl⟩⟩:=hrel
  cases gk with
  | zero=>exact absurd HA.out (by simp [spec_l01Pow2.l0])
  | succ k1 =>
   have H:=HA.out;clear HA;simp only [spec_l01Pow2.l0] at H
   by_cases c2:A0 < a0
   ·rw [if_pos c2] at H;have c2b0:decide (A0 < a0)=true:=decide_eq_true c2;clear c2;have H':=Aside0.mk H;clear H;go_wp2;go_roundg k1
    case measure=>have:=HK1.out;omega
    case rel=>exact ⟨(wrap64 (2 * A1)),(wrap64 (A0 + 1)),(by first|rfl|(simp;done)|(simp [*];done)),(by first|rfl|(simp;done)|(simp [*];done)),H',⟨by have:=HK1.out;omega⟩,by repeat (first|exact Drawn0.refl _|apply Drawn0.step)⟩
   ·rw [if_neg c2] at H;have c2b0:decide (A0 < a0)=false:=decide_eq_false c2;clear c2;obtain rfl:=os H;go_wp2;go_ret;exact ⟨e1,dn⟩
end Go.Proofs.Ytlpfmhikahlcoaa.G
namespace Go.Proofs.Ytlpfmhikahlcoaa.G
open Go.Proofs.Ytlpfmhikahlcoaa.Sh Go.RowKit Go.Proofs.YtlpfmhikahlcoaaW.PrintWords Go.Proofs.YtlpfmhikahlcoaaW.PrintLast Go.Proofs.YtlpfmhikahlcoaaW.PrintMore
attribute [local go_sem] max2_int min2_int max_two min_two max_three min_three max_four min_four
set_option linter.unusedVariables false
set_option linter.unusedSimpArgs false
mutual
def spec_TableOk.j0:Nat→Bool→Int→ByteArray→Option (Bool)
 | 0,_,_,_=>none
 | k + 1,x16,x102000,x102001=>if x16=true then (some false) else (spec_TableOk.l0 k 0 x102000 x102001)
def spec_TableOk.l0:Nat→Int→Int→ByteArray→Option (Bool)
 | 0,_,_,_=>none
 | k + 1,x3,x102000,x102001=>if x3 < (x102001.size:Int) then (if 0≤x3 then (if (bt x102001 x3)=48 then (spec_TableOk.l0 k (wrap64 (x3 + 1)) x102000 x102001) else (if (bt x102001 x3)=49 then (spec_TableOk.l0 k (wrap64 (x3 + 1)) x102000 x102001) else (some false))) else (none)) else (some true)
end
def spec_TableOk.f (k:Nat) (A1:Int) (A0:ByteArray):Option (Bool):=(spec_l01In.f A1 0 12).bind fun A9=>(if A9=true then ((spec_l01Pow2.f k A1).bind fun A5=>(spec_TableOk.j0 k ((A0.size:Int) != A5) A1 A0)) else (spec_TableOk.j0 k true A1 A0))
set_option maxHeartbeats 80000000 in
set_option maxRecDepth 100000 in
theorem spec_TableOk.calls (k:Nat) (A1:Int) (A0:ByteArray) (r:Bool) (w:World) (h:spec_TableOk.f k A1 A0=some r) :
  Calls Try.prog 105 #[.agg #[.int .i64 A1,.string A0]] w fun e w'=>e = .returned (.bool r)∧Below w.heap.size w w':=by
 have hu29:=Try.underlying29;have HB:=Aside0.mk (Below.refl w.heap.size w);have H:((spec_l01In.f A1 0 12).bind fun A9=>(if A9=true then ((spec_l01Pow2.f k A1).bind fun A5=>(spec_TableOk.j0 k ((A0.size:Int) != A5) A1 A0)) else (spec_TableOk.j0 k true A1 A0)))=some r:=h;clear h;have HC2:=Aside0.mk H;clear H
 go_enter Try.func105,Try.ntmps105
 go_upto_region 1 with (first|((with_reducible refine gate_dst (N:=1) rfl ?_);(try (refine gate_guard (by rfl) ?_;dsimp only));refine bx (N:=1) (cs:=#[.int .i64 A1,.string A0]) (t:=29) ?_;intro A7 hg w3 hbox hb;have A3:=Aside0.mk (hbox);have Aa:=bz0 hg HB;have Ab:=bz0 hg HB;replace HB:=bs0 HB hb;clear hb hbox hg))
 repeat (go_quiet (first|((with_reducible refine gate_dst (N:=1) rfl ?_);(try (refine gate_guard (by rfl) ?_;dsimp only));refine bx (N:=1) (cs:=#[.int .i64 A1,.string A0]) (t:=29) ?_;intro A7 hg w3 hbox hb;have A3:=Aside0.mk (hbox);have Aa:=bz0 hg HB;have Ab:=bz0 hg HB;replace HB:=bs0 HB hb;clear hb hbox hg));go_upto_region 1 with (first|((with_reducible refine gate_dst (N:=1) rfl ?_);(try (refine gate_guard (by rfl) ?_;dsimp only));refine bx (N:=1) (cs:=#[.int .i64 A1,.string A0]) (t:=29) ?_;intro A7 hg w3 hbox hb;have A3:=Aside0.mk (hbox);have Aa:=bz0 hg HB;have Ab:=bz0 hg HB;replace HB:=bs0 HB hb;clear hb hbox hg)))
 (try simp only [Act.put,List.setIfInBounds_toArray,List.set_cons_zero,List.set_cons_succ])
 go_cut [16] (fun v16 wc=>∃ (kq:Nat) (A8:Bool),v16 = .bool A8∧Aside0 (spec_TableOk.j0 kq A8 A1 A0=some r)∧Aside0 (kq≤k)∧Aside0 (wc.heap[A7]? = some (.cells #[.int .i64 A1,.string A0] 29 (0,0)))∧Aside0 (Below w.heap.size w wc))
 case first =>
  have H:=HC2.out;clear HC2;replace H:=ob H;obtain ⟨A9,A40,H⟩:=H;replace H:(if A9=true then ((spec_l01Pow2.f k A1).bind fun A5=>(spec_TableOk.j0 k ((A0.size:Int) != A5) A1 A0)) else (spec_TableOk.j0 k true A1 A0))=some r:=H;have A4:=Aside0.mk A40;clear A40
  by_cases c5:A9=true
  ·subst c5
   have H1:((spec_l01Pow2.f k A1).bind fun A5=>(spec_TableOk.j0 k ((A0.size:Int) != A5) A1 A0))=some r:=by rw [if_pos rfl] at H;exact H
   clear H;have H:=H1;clear H1;replace H:=ob H;obtain ⟨A5,A60,H⟩:=H;replace H:(spec_TableOk.j0 k ((A0.size:Int) != A5) A1 A0)=some r:=H;have A6:=Aside0.mk A60;clear A60;have H':=Aside0.mk H;clear H;have hcz7__:=c2_ A3;have hfz7__:=f_ A3;go_wp2_with (first|(go_at_call 63;(try simp only [i64_w,i32_w]);(with_reducible refine (spec_l01In.calls A1 0 12 true _ A4.out).mono ?_);rintro e w' ⟨rfl,⟨nd,rfl⟩⟩;(try exact dd))|(go_at_call 119;(try simp only [i64_w,i32_w]);(with_reducible refine (spec_l01Pow2.calls k A1 A5 _ A6.out).mono ?_);rintro e w' ⟨rfl,⟨nd,rfl⟩⟩;(try exact dd)))
   repeat (go_quiet (first|(go_at_call 63;(try simp only [i64_w,i32_w]);(with_reducible refine (spec_l01In.calls A1 0 12 true _ A4.out).mono ?_);rintro e w' ⟨rfl,⟨nd,rfl⟩⟩;(try exact dd))|(go_at_call 119;(try simp only [i64_w,i32_w]);(with_reducible refine (spec_l01Pow2.calls k A1 A5 _ A6.out).mono ?_);rintro e w' ⟨rfl,⟨nd,rfl⟩⟩;(try exact dd)));try go_wp2_with (first|(go_at_call 63;(try simp only [i64_w,i32_w]);(with_reducible refine (spec_l01In.calls A1 0 12 true _ A4.out).mono ?_);rintro e w' ⟨rfl,⟨nd,rfl⟩⟩;(try exact dd))|(go_at_call 119;(try simp only [i64_w,i32_w]);(with_reducible refine (spec_l01Pow2.calls k A1 A5 _ A6.out).mono ?_);rintro e w' ⟨rfl,⟨nd,rfl⟩⟩;(try exact dd))))
   go_meet
   case rel=>exact ⟨_,(((A0.size:Int) != A5)),(by first|rfl|(simp;done)|(simp [*];done)),H',⟨by first|omega|exact Nat.le_refl _⟩,⟨dr A3⟩,⟨by exact tb HB⟩⟩
  ·replace c5:=Bool.eq_false_iff.mpr c5;subst c5
   have H1:(spec_TableOk.j0 k true A1 A0)=some r:=by rw [if_neg (show ¬ (false=true) by decide)] at H;exact H
   clear H;have H:=H1;clear H1;have H':=Aside0.mk H;clear H;have hcz8__:=c2_ A3;have hfz8__:=f_ A3;go_wp2_with (first|(go_at_call 63;(try simp only [i64_w,i32_w]);(with_reducible refine (spec_l01In.calls A1 0 12 false _ A4.out).mono ?_);rintro e w' ⟨rfl,⟨nd,rfl⟩⟩;(try exact dd)))
   repeat (go_quiet (first|(go_at_call 63;(try simp only [i64_w,i32_w]);(with_reducible refine (spec_l01In.calls A1 0 12 false _ A4.out).mono ?_);rintro e w' ⟨rfl,⟨nd,rfl⟩⟩;(try exact dd)));try go_wp2_with (first|(go_at_call 63;(try simp only [i64_w,i32_w]);(with_reducible refine (spec_l01In.calls A1 0 12 false _ A4.out).mono ?_);rintro e w' ⟨rfl,⟨nd,rfl⟩⟩;(try exact dd))))
   go_meet
   case rel=>exact ⟨_,(true),(by first|rfl|(simp;done)|(simp [*];done)),H',⟨by first|omega|exact Nat.le_refl _⟩,⟨dr A3⟩,⟨by exact tb HB⟩⟩
 case rest =>
  clear HC2;(try clear c1);(try clear p2);(try clear c5);(try clear hcz7__);(try clear hcz8__);(try clear hfz7__);(try clear hfz8__);obtain ⟨kq,A8,rfl,HA,HJ1,A3,HB⟩:=hcut
  cases kq with
    | zero=>exact absurd HA.out (by simp [spec_TableOk.j0])
    | succ kj1 =>
   have H:=HA.out;clear HA;simp only [spec_TableOk.j0] at H
   by_cases c9:A8=true
   ·subst c9
    have H1:(some false)=some r:=by rw [if_pos rfl] at H;exact H
    clear H;have H:=H1;clear H1;obtain rfl:=os H;go_wp2
    repeat (go_quiet (fail);try go_wp2)
    go_ret;exact ⟨er,tb HB⟩
   ·replace c9:=Bool.eq_false_iff.mpr c9;subst c9
    have H1:(spec_TableOk.l0 kj1 0 A1 A0)=some r:=by rw [if_neg (show ¬ (false=true) by decide)] at H;exact H
    clear H;have H:=H1;clear H1;have H':=Aside0.mk H;clear H;go_wp2
    repeat (go_quiet (fail);try go_wp2)
    go_loopg [3] kj1 (fun kq v3 w'=>∃ (A2:Int),v3 = .int .i64 A2∧Aside0 (spec_TableOk.l0 kq A2 A1 A0=some r)∧Aside0 (kq≤kj1)∧Aside0 (w'.heap[A7]? = some (.cells #[.int .i64 A1,.string A0] 29 (0,0)))∧Aside0 (Below w.heap.size w w'))
    case atStart=>exact ⟨(0),(by first|rfl|(simp;done)|(simp [*];done)),H',⟨Nat.le_refl _⟩,⟨dr A3⟩,⟨by exact tb HB⟩⟩
    case round =>
     clear H';(try clear c1);(try clear p2);(try clear c5);(try clear c9);(try clear hcz7__);(try clear hcz8__);(try clear hfz7__);(try clear hfz8__);(try clear p2);obtain ⟨A2,rfl,HA,HK2,A3,HB⟩:=hrel
     cases gk with
          | zero=>exact absurd HA.out (by simp [spec_TableOk.l0])
          | succ k2 =>
      have H:=HA.out;clear HA;simp only [spec_TableOk.l0] at H
      by_cases c10:A2 < (A0.size:Int)
      ·rw [if_pos c10] at H;have c10b0:decide (A2 < (A0.size:Int))=true:=decide_eq_true c10;clear c10
       by_cases c11:0≤A2
       ·rw [if_pos c11] at H;have c11b0:decide (0≤A2)=true:=decide_eq_true c11;clear c11
        by_cases c13:(bt A0 A2)=48
        ·rw [if_pos c13] at H;have c13b0:((bt A0 A2) == 48)=true:=beq_iff_eq.mpr c13;have c13b1:((bt A0 A2) != 48)=false:=bne_eq_false_iff_eq.mpr c13;clear c13;have H':=Aside0.mk H;clear H;have hcz14__:=c2_ A3;have hfz14__:=f_ A3;have p12:0≤(A2:Int):=od;have q12:A2 < (A0.size:Int):=od;have hx12:=bt_at A0 A2;replace p12:=eq_true p12;replace q12:=eq_true q12;go_wp2
         repeat (go_quiet (fail);try go_wp2)
         go_roundg k2
         case measure=>have:=HJ1.out;have:=HK2.out;omega
         case rel=>exact ⟨(wrap64 (A2 + 1)),(by first|rfl|(simp;done)|(simp [*];done)),H',⟨by have:=HJ1.out;have:=HK2.out;omega⟩,⟨dr A3⟩,⟨by exact tb HB⟩⟩
        ·rw [if_neg c13] at H;have c13b0:((bt A0 A2) == 48)=false:=beq_eq_false_iff_ne.mpr c13;have c13b1:((bt A0 A2) != 48)=true:=bne_iff_ne.mpr c13
         by_cases c16:(bt A0 A2)=49
         ·rw [if_pos c16] at H;have c16b0:((bt A0 A2) == 49)=true:=beq_iff_eq.mpr c16;have c16b1:((bt A0 A2) != 49)=false:=bne_eq_false_iff_eq.mpr c16;clear c16;have H':=Aside0.mk H;clear H;have hcz17__:=c2_ A3;have hfz17__:=f_ A3;have p12:0≤(A2:Int):=od;have q12:A2 < (A0.size:Int):=od;have hx12:=bt_at A0 A2;replace p12:=eq_true p12;replace q12:=eq_true q12;have p15:0≤(A2:Int):=od;have q15:A2 < (A0.size:Int):=od;have hx15:=bt_at A0 A2;replace p15:=eq_true p15;replace q15:=eq_true q15;go_wp2
          repeat (go_quiet (fail);try go_wp2)
          go_roundg k2
          case measure=>have:=HJ1.out;have:=HK2.out;omega
          case rel=>exact ⟨(wrap64 (A2 + 1)),(by first|rfl|(simp;done)|(simp [*];done)),H',⟨by have:=HJ1.out;have:=HK2.out;omega⟩,⟨dr A3⟩,⟨by exact tb HB⟩⟩
         ·rw [if_neg c16] at H;have c16b0:((bt A0 A2) == 49)=false:=beq_eq_false_iff_ne.mpr c16;have c16b1:((bt A0 A2) != 49)=true:=bne_iff_ne.mpr c16;obtain rfl:=os H;have hcz18__:=c2_ A3;have hfz18__:=f_ A3;have p12:0≤(A2:Int):=od;have q12:A2 < (A0.size:Int):=od;have hx12:=bt_at A0 A2;replace p12:=eq_true p12;replace q12:=eq_true q12;have p15:0≤(A2:Int):=od;have q15:A2 < (A0.size:Int):=od;have hx15:=bt_at A0 A2;replace p15:=eq_true p15;replace q15:=eq_true q15;go_wp2
          repeat (go_quiet (fail);try go_wp2)
          go_ret;exact ⟨er,tb HB⟩
       ·rw [if_neg c11] at H;exact absurd H (by simp)
      ·rw [if_neg c10] at H;have c10b0:decide (A2 < (A0.size:Int))=false:=decide_eq_false c10;clear c10;obtain rfl:=os H;have hcz19__:=c2_ A3;have hfz19__:=f_ A3;go_wp2
       repeat (go_quiet (fail);try go_wp2)
       go_ret;exact ⟨er,tb HB⟩
def spec_Half.f (k:Nat) (A5:Int) (A0:ByteArray) (a1:Int):Option (Int × ByteArray × Bool):=(spec_TableOk.f k A5 A0).bind fun Ac=>(if Ac=true then (if A5=0 then (some (0,(⟨#[]⟩:ByteArray),false)) else ((spec_l01In.f a1 0 1).bind fun Ab=>(if Ab=true then (if 0≤(wrap64 (a1 * (wrap64 ((A0.size:Int) / 2)))) then (if (wrap64 (a1 * (wrap64 ((A0.size:Int) / 2))))≤(wrap64 ((wrap64 (a1 * (wrap64 ((A0.size:Int) / 2)))) + (wrap64 ((A0.size:Int) / 2)))) then (if (wrap64 ((wrap64 (a1 * (wrap64 ((A0.size:Int) / 2)))) + (wrap64 ((A0.size:Int) / 2))))≤(A0.size:Int) then (some (wrap64 (A5 - 1),A0.extract ((wrap64 (a1 * (wrap64 ((A0.size:Int) / 2)))):Int).toNat ((wrap64 ((wrap64 (a1 * (wrap64 ((A0.size:Int) / 2)))) + (wrap64 ((A0.size:Int) / 2)))):Int).toNat,true)) else (none)) else (none)) else (none)) else (some (0,(⟨#[]⟩:ByteArray),false))))) else (some (0,(⟨#[]⟩:ByteArray),false)))
def spec_Half.T4:Bool × List (List Nat × List Nat):=(true,[([],[]),([0],[0]),([1],[1]),([],[]),([3],[3]),([],[]),([],[]),([5,6],[5,6]),([],[]),([],[]),([8,9],[8,9]),([],[]),([10,11],[10,11]),([4,7,12],[4,7,12]),([2,13],[2,13]),([14,0,1,2,3,4,5,6,7,8,9,10,11,12,13,14],[14]),([15,0,1,2,3,4,5,6,7,8,9,10,11,12,13,14,15],[])])
def spec_Half.B4:List Nat:=[0,1,3,0,8,0,0,96,0,0,768,0,3840,8184,16383,32767,65535]
theorem spec_Half.tab4:rtab .any (opsOf Try.f61 4)=spec_Half.T4:=by kernel_rfl
theorem spec_Half.bits4:waitsOk spec_Half.T4.2 spec_Half.B4=true:=by kernel_rfl
set_option maxHeartbeats 80000000 in
set_option maxRecDepth 100000 in
theorem spec_Half.calls (k:Nat) (A5:Int) (A0:ByteArray) (a1:Int) (r1:Int) (r2:ByteArray) (r3:Bool) (w:World) (h:spec_Half.f k A5 A0 a1=some (r1,r2,r3)) :
  Calls Try.prog 61 #[.agg #[.int .i64 A5,.string A0],.int .i64 a1] w fun e w'=>e = .returned (.tuple #[.agg #[.int .i64 r1,.string r2],.bool r3])∧Below w.heap.size w w':=by
 have hu29:=Try.underlying29;have HB:=Aside0.mk (Below.refl w.heap.size w);have H:((spec_TableOk.f k A5 A0).bind fun Ac=>(if Ac=true then (if A5=0 then (some (0,(⟨#[]⟩:ByteArray),false)) else ((spec_l01In.f a1 0 1).bind fun Ab=>(if Ab=true then (if 0≤(wrap64 (a1 * (wrap64 ((A0.size:Int) / 2)))) then (if (wrap64 (a1 * (wrap64 ((A0.size:Int) / 2))))≤(wrap64 ((wrap64 (a1 * (wrap64 ((A0.size:Int) / 2)))) + (wrap64 ((A0.size:Int) / 2)))) then (if (wrap64 ((wrap64 (a1 * (wrap64 ((A0.size:Int) / 2)))) + (wrap64 ((A0.size:Int) / 2))))≤(A0.size:Int) then (some (wrap64 (A5 - 1),A0.extract ((wrap64 (a1 * (wrap64 ((A0.size:Int) / 2)))):Int).toNat ((wrap64 ((wrap64 (a1 * (wrap64 ((A0.size:Int) / 2)))) + (wrap64 ((A0.size:Int) / 2)))):Int).toNat,true)) else (none)) else (none)) else (none)) else (some (0,(⟨#[]⟩:ByteArray),false))))) else (some (0,(⟨#[]⟩:ByteArray),false))))=some (r1,r2,r3):=h;clear h;replace H:=ob H;obtain ⟨Ac,A30,H⟩:=H;replace H:(if Ac=true then (if A5=0 then (some (0,(⟨#[]⟩:ByteArray),false)) else ((spec_l01In.f a1 0 1).bind fun Ab=>(if Ab=true then (if 0≤(wrap64 (a1 * (wrap64 ((A0.size:Int) / 2)))) then (if (wrap64 (a1 * (wrap64 ((A0.size:Int) / 2))))≤(wrap64 ((wrap64 (a1 * (wrap64 ((A0.size:Int) / 2)))) + (wrap64 ((A0.size:Int) / 2)))) then (if (wrap64 ((wrap64 (a1 * (wrap64 ((A0.size:Int) / 2)))) + (wrap64 ((A0.size:Int) / 2))))≤(A0.size:Int) then (some (wrap64 (A5 - 1),A0.extract ((wrap64 (a1 * (wrap64 ((A0.size:Int) / 2)))):Int).toNat ((wrap64 ((wrap64 (a1 * (wrap64 ((A0.size:Int) / 2)))) + (wrap64 ((A0.size:Int) / 2)))):Int).toNat,true)) else (none)) else (none)) else (none)) else (some (0,(⟨#[]⟩:ByteArray),false))))) else (some (0,(⟨#[]⟩:ByteArray),false)))=some (r1,r2,r3):=H;have A3:=Aside0.mk A30;clear A30
 by_cases c4:Ac=true
 ·subst c4
  have H1:(if A5=0 then (some (0,(⟨#[]⟩:ByteArray),false)) else ((spec_l01In.f a1 0 1).bind fun Ab=>(if Ab=true then (if 0≤(wrap64 (a1 * (wrap64 ((A0.size:Int) / 2)))) then (if (wrap64 (a1 * (wrap64 ((A0.size:Int) / 2))))≤(wrap64 ((wrap64 (a1 * (wrap64 ((A0.size:Int) / 2)))) + (wrap64 ((A0.size:Int) / 2)))) then (if (wrap64 ((wrap64 (a1 * (wrap64 ((A0.size:Int) / 2)))) + (wrap64 ((A0.size:Int) / 2))))≤(A0.size:Int) then (some (wrap64 (A5 - 1),A0.extract ((wrap64 (a1 * (wrap64 ((A0.size:Int) / 2)))):Int).toNat ((wrap64 ((wrap64 (a1 * (wrap64 ((A0.size:Int) / 2)))) + (wrap64 ((A0.size:Int) / 2)))):Int).toNat,true)) else (none)) else (none)) else (none)) else (some (0,(⟨#[]⟩:ByteArray),false)))))=some (r1,r2,r3):=by rw [if_pos rfl] at H;exact H
  clear H;have H:=H1;clear H1
  by_cases c5:A5=0
  ·rw [if_pos c5] at H;have c5b0:(A5 == 0)=true:=beq_iff_eq.mpr c5;have c5b1:(A5 != 0)=false:=bne_eq_false_iff_eq.mpr c5;clear c5;simp only [Option.some.injEq,Prod.mk.injEq] at H;obtain ⟨rfl,rfl,rfl⟩:=H
   go_enter Try.func61,Try.ntmps61
   go_wp2_with (first|((with_reducible refine gate_dst (N:=2) rfl ?_);refine bx (N:=2) (cs:=#[.int .i64 A5,.string A0]) (t:=29) ?_;intro A9 hg w6 hbox hb;have A1:=Aside0.mk (hbox);have Ad:=bz0 hg HB;have A7:=bz0 hg HB;replace HB:=bs0 HB hb;clear hb hbox hg)|((with_reducible refine gate_dst (N:=4) rfl ?_);refine bx (N:=4) (cs:=#[.int .i64 0,.string (⟨#[]⟩:ByteArray)]) (t:=29) ?_;intro A8 hg w7 hbox hb;have A2:=Aside0.mk (hbox);have Ae:=bz1 hg HB A7;have Aa:=bz1 hg HB A7;replace HB:=bs1 HB hb A7;have A4:=nl hg A1;have A6:=ng hg A1;replace A1:=bb A1 hb;clear hb hbox hg;have hnb8:=A4.out;have hnc8:=A6.out;have hcz9__:=c2_ A1;have hfz9__:=f_ A1)|((with_reducible refine gate_callee (f:=105) rfl ?_);refine goesL_ (some 8) rfl rfl Try.func105 (by kernel_rfl) rfl #[.agg #[.int .i64 A5,.string A0]] rfl ml ?_;(with_reducible refine (spec_TableOk.calls k A5 A0 true _ A3.out).mono ?_);rintro e w10 ⟨rfl,hb⟩;refine ⟨_,rfl,?_⟩;replace A1:=bb A1 hb;replace A2:=bb A2 hb;replace HB:=bs2 HB hb A7 Aa;(try clear hb);(try clear hb2);(try clear hk);(try clear hi);have hcz11__:=c2_ A1;have hfz11__:=f_ A1;have hcz12__:=c2_ A2;have hfz12__:=f_ A2));refine bodyPost_ret (results_ct rfl _ _ A8 29 #[.int .i64 0,.string (⟨#[]⟩:ByteArray)] (0,0) _ rfl (by (with_reducible repeat (first|refine blk_drewN ?_ _|refine blk_drew ?_|refine blk_alloc ?_ _));exact bp2 A2.out) Try.underlying29 rfl (by kernel_rfl)) rfl ?_;exact ⟨er,tb HB⟩
  ·rw [if_neg c5] at H;have c5b0:(A5 == 0)=false:=beq_eq_false_iff_ne.mpr c5;have c5b1:(A5 != 0)=true:=bne_iff_ne.mpr c5;replace H:=ob H;obtain ⟨Ab,A130,H⟩:=H;replace H:(if Ab=true then (if 0≤(wrap64 (a1 * (wrap64 ((A0.size:Int) / 2)))) then (if (wrap64 (a1 * (wrap64 ((A0.size:Int) / 2))))≤(wrap64 ((wrap64 (a1 * (wrap64 ((A0.size:Int) / 2)))) + (wrap64 ((A0.size:Int) / 2)))) then (if (wrap64 ((wrap64 (a1 * (wrap64 ((A0.size:Int) / 2)))) + (wrap64 ((A0.size:Int) / 2))))≤(A0.size:Int) then (some (wrap64 (A5 - 1),A0.extract ((wrap64 (a1 * (wrap64 ((A0.size:Int) / 2)))):Int).toNat ((wrap64 ((wrap64 (a1 * (wrap64 ((A0.size:Int) / 2)))) + (wrap64 ((A0.size:Int) / 2)))):Int).toNat,true)) else (none)) else (none)) else (none)) else (some (0,(⟨#[]⟩:ByteArray),false)))=some (r1,r2,r3):=H;have A13:=Aside0.mk A130;clear A130
   by_cases c14:Ab=true
   ·subst c14
    have H1:(if 0≤(wrap64 (a1 * (wrap64 ((A0.size:Int) / 2)))) then (if (wrap64 (a1 * (wrap64 ((A0.size:Int) / 2))))≤(wrap64 ((wrap64 (a1 * (wrap64 ((A0.size:Int) / 2)))) + (wrap64 ((A0.size:Int) / 2)))) then (if (wrap64 ((wrap64 (a1 * (wrap64 ((A0.size:Int) / 2)))) + (wrap64 ((A0.size:Int) / 2))))≤(A0.size:Int) then (some (wrap64 (A5 - 1),A0.extract ((wrap64 (a1 * (wrap64 ((A0.size:Int) / 2)))):Int).toNat ((wrap64 ((wrap64 (a1 * (wrap64 ((A0.size:Int) / 2)))) + (wrap64 ((A0.size:Int) / 2)))):Int).toNat,true)) else (none)) else (none)) else (none))=some (r1,r2,r3):=by rw [if_pos rfl] at H;exact H
    clear H;have H:=H1;clear H1;obtain ⟨ji15,hji15⟩:∃ j_:Int,(wrap64 (a1 * (wrap64 ((A0.size:Int) / 2))))=j_:=⟨_,rfl⟩
    replace H:(if 0≤(ji15) then (if (ji15)≤(wrap64 ((ji15) + (wrap64 ((A0.size:Int) / 2)))) then (if (wrap64 ((ji15) + (wrap64 ((A0.size:Int) / 2))))≤(A0.size:Int) then (some (wrap64 (A5 - 1),A0.extract ((ji15):Int).toNat ((wrap64 ((ji15) + (wrap64 ((A0.size:Int) / 2)))):Int).toNat,true)) else (none)) else (none)) else (none))=some (r1,r2,r3):=by first|(rw [hji15] at H;exact H)|(simp only [hji15] at H ⊢;exact H)
    (try rw [hji15] at A3)
    (try rw [hji15] at A13)
    have hji15w:(IntKind.i64.wrap (a1 * (wrap64 ((A0.size:Int) / 2))))=ji15:=(i64_w _).trans hji15
    by_cases c16:0≤(ji15)
    ·rw [if_pos c16] at H;have c16b0:=eq_true c16;have c16b1:decide (0≤(ji15))=true:=decide_eq_true c16;clear c16
     by_cases c17:(ji15)≤(wrap64 ((ji15) + (wrap64 ((A0.size:Int) / 2))))
     ·rw [if_pos c17] at H;have c17b0:=eq_true c17;have c17b1:decide ((ji15)≤(wrap64 ((ji15) + (wrap64 ((A0.size:Int) / 2)))))=true:=decide_eq_true c17
      by_cases c18:(wrap64 ((ji15) + (wrap64 ((A0.size:Int) / 2))))≤(A0.size:Int)
      ·rw [if_pos c18] at H;have c18b0:=eq_true c18;have c18b1:decide ((wrap64 ((ji15) + (wrap64 ((A0.size:Int) / 2))))≤(A0.size:Int))=true:=decide_eq_true c18;simp only [Option.some.injEq,Prod.mk.injEq] at H;obtain ⟨rfl,rfl,rfl⟩:=H
       go_enter Try.func61,Try.ntmps61
       try go_wp2_with (first|((with_reducible refine gate_dst (N:=2) rfl ?_);refine bx (N:=2) (cs:=#[.int .i64 A5,.string A0]) (t:=29) ?_;intro A9 hg w19 hbox hb;have A1:=Aside0.mk (hbox);have Ad:=bz0 hg HB;have A7:=bz0 hg HB;replace HB:=bs0 HB hb;clear hb hbox hg)|((with_reducible refine gate_dst (N:=4) rfl ?_);refine bx (N:=4) (cs:=#[.int .i64 0,.string (⟨#[]⟩:ByteArray)]) (t:=29) ?_;intro A8 hg w20 hbox hb;have A2:=Aside0.mk (hbox);have Ae:=bz1 hg HB A7;have Aa:=bz1 hg HB A7;replace HB:=bs1 HB hb A7;have A4:=nl hg A1;have A6:=ng hg A1;replace A1:=bb A1 hb;clear hb hbox hg;have hnb21:=A4.out;have hnc21:=A6.out;have hcz22__:=c2_ A1;have hfz22__:=f_ A1)|((with_reducible refine gate_callee (f:=105) rfl ?_);refine goesL_ (some 8) rfl rfl Try.func105 (by kernel_rfl) rfl #[.agg #[.int .i64 A5,.string A0]] rfl ml ?_;(with_reducible refine (spec_TableOk.calls k A5 A0 true _ A3.out).mono ?_);rintro e w23 ⟨rfl,hb⟩;refine ⟨_,rfl,?_⟩;replace A1:=bb A1 hb;replace A2:=bb A2 hb;replace HB:=bs2 HB hb A7 Aa;(try clear hb);(try clear hb2);(try clear hk);(try clear hi);have hcz24__:=c2_ A1;have hfz24__:=f_ A1)|(go_at_call 63;(try simp only [i64_w,i32_w]);(with_reducible refine (spec_l01In.calls a1 0 1 true _ A13.out).mono ?_);rintro e w' ⟨rfl,⟨nd,rfl⟩⟩;(try (rw [drewN_self w23];generalize hq_:World.drewN w23 _=w23;have n0_:Aside0 (w23.heap[A9]? = some (.cells #[.int .i64 A5,.string A0] 29 (0,0))):=⟨by rw [← hq_];exact (dr A1)⟩;have n1_:Aside0 (w23.heap[A8]? = some (.cells #[.int .i64 0,.string (⟨#[]⟩:ByteArray)] 29 (0,0))):=⟨by rw [← hq_];exact (dr A2)⟩;have n2_:Aside0 (Below w.heap.size w w23):=⟨by rw [← hq_];exact (tb HB)⟩;clear A1 A2 HB hq_;have A1:=n0_;have A2:=n1_;have HB:=n2_;clear n0_ n1_ n2_));(try (have hcz25__:=c2_ A1;have hfz25__:=f_ A1))))
       replace A1:=Aside0.mk (blk_drew A1.out);replace A2:=Aside0.mk (blk_drew A2.out);replace HB:=Aside0.mk (below_drew1 HB.out);refine start_ (n:=17) (S:=fun w'=>w'.cell? ⟨A9,0,none⟩=some (.int .i64 A5)∧w'.cell? ⟨A9,1,none⟩=some (.string A0)) (ds:=[]) (tf 0 17) (by kernel_rfl) rfl rfl ⟨(blk_cell A1.out 0).trans rfl,(blk_cell A1.out 1).trans rfl⟩ (fun hHeld=>?_);refine with_tabW spec_Half.tab4 spec_Half.bits4 (fun HT_ HW_=>?_);generalize w23.drew=w26 at A1 A2 HB hHeld ⊢;refine pure_ (i:=0) (N:=some 25) (v:=?_) (a':=?_) (tf 1 16) rfl rfl (any_of HT_.out (by kernel_rfl)) (fun _ _ _ h=>h) (Or.inl ⟨by rfl,?_⟩) ?_ ?_;rotate_left
       ·intro w';go_simp;with_reducible rfl
       rotate_left
       ·simp only [Act.put,s1,s2,s3,i64_w,i32_w];rfl
       refine pure_ (i:=3) (N:=some 28) (v:=?_) (a':=?_) #[true,false,false,true,false,false,false,false,false,false,false,false,false,false,false,false,false] rfl rfl (any_of HT_.out (by kernel_rfl)) (fun _ _ _ h=>h) (Or.inl ⟨by rfl,?_⟩) ?_ ?_;rotate_left
       ·intro w';go_simp;with_reducible rfl
       rotate_left
       ·simp only [Act.put,s1,s2,s3,i64_w,i32_w];rfl
       refine pure_ (i:=5) (N:=some 30) (v:=?_) (a':=?_) #[true,false,false,true,false,true,false,false,false,false,false,false,false,false,false,false,false] rfl rfl (any_of HT_.out (by kernel_rfl)) (fun _ _ _ h=>h) (Or.inl ⟨by rfl,?_⟩) ?_ ?_;rotate_left
       ·intro w';go_simp;with_reducible rfl
       rotate_left
       ·simp only [Act.put,s1,s2,s3,i64_w,i32_w];rfl
       refine pure_ (i:=6) (N:=some 31) (v:=?_) (a':=?_) #[true,false,false,true,false,true,true,false,false,false,false,false,false,false,false,false,false] rfl rfl (any_of HT_.out (by kernel_rfl)) (fun _ _ _ h=>h) (Or.inl ⟨by rfl,?_⟩) ?_ ?_;rotate_left
       ·intro w';go_simp;with_reducible rfl
       rotate_left
       ·simp only [Act.put,s1,s2,s3,i64_w,i32_w];rfl
       refine pure_ (i:=7) (N:=some 32) (v:=?_) (a':=?_) #[true,false,false,true,false,true,true,true,false,false,false,false,false,false,false,false,false] rfl rfl (any_of HT_.out (by kernel_rfl)) (fun _ _ _ h=>h) (Or.inl ⟨by rfl,?_⟩) ?_ ?_;rotate_left
       ·intro w';go_simp;with_reducible rfl
       rotate_left
       ·simp only [Act.put,s1,s2,s3,i64_w,i32_w];rfl
       refine pure_ (i:=8) (N:=some 33) (v:=?_) (a':=?_) #[true,false,false,true,false,true,true,true,true,false,false,false,false,false,false,false,false] rfl rfl (any_of HT_.out (by kernel_rfl)) (fun _ _ _ h=>h) (Or.inl ⟨by rfl,?_⟩) ?_ ?_;rotate_left
       ·intro w';go_simp;with_reducible rfl
       rotate_left
       ·simp only [Act.put,s1,s2,s3,i64_w,i32_w];rfl
       refine pure_ (i:=9) (N:=some 34) (v:=?_) (a':=?_) #[true,false,false,true,false,true,true,true,true,true,false,false,false,false,false,false,false] rfl rfl (any_of HT_.out (by kernel_rfl)) (fun _ _ _ h=>h) (Or.inl ⟨by rfl,?_⟩) ?_ ?_;rotate_left
       ·intro w';go_simp;with_reducible rfl
       rotate_left
       ·simp only [Act.put,s1,s2,s3,i64_w,i32_w];rfl
       refine pure_ (i:=10) (N:=some 35) (v:=?_) (a':=?_) #[true,false,false,true,false,true,true,true,true,true,true,false,false,false,false,false,false] rfl rfl (any_of HT_.out (by kernel_rfl)) (fun _ _ _ h=>h) (Or.inl ⟨by rfl,?_⟩) ?_ ?_;rotate_left
       ·intro w';go_simp;with_reducible rfl
       rotate_left
       ·simp only [Act.put,s1,s2,s3,i64_w,i32_w];rfl
       refine pure_ (i:=11) (N:=some 36) (v:=?_) (a':=?_) #[true,false,false,true,false,true,true,true,true,true,true,true,false,false,false,false,false] rfl rfl (any_of HT_.out (by kernel_rfl)) (fun _ _ _ h=>h) (Or.inl ⟨by rfl,?_⟩) ?_ ?_;rotate_left
       ·intro w';go_simp;with_reducible rfl
       rotate_left
       ·simp only [Act.put,s1,s2,s3,i64_w,i32_w];rfl
       refine pure_ (i:=12) (N:=some 37) (v:=?_) (a':=?_) #[true,false,false,true,false,true,true,true,true,true,true,true,true,false,false,false,false] rfl rfl (any_of HT_.out (by kernel_rfl)) (fun _ _ _ h=>h) (Or.inl ⟨by rfl,?_⟩) ?_ ?_;rotate_left
       ·intro w';go_simp;with_reducible rfl
       rotate_left
       ·simp only [Act.put,s1,s2,s3,i64_w,i32_w];rfl
       refine take_ (i:=1) (N:=some 26) (v:=?_) (a':=?_) #[true,true,false,true,false,true,true,true,true,true,true,true,true,false,false,false,false] rfl rfl (take_ofW HT_.out HW_.out (by kernel_rfl)) (fun _ _ _ h=>h) (Or.inl ⟨by rfl,?_⟩) hHeld ?_ ?_;rotate_left
       ·rintro w' ⟨s0,s1⟩;go_simp;with_reducible rfl
       rotate_left
       ·simp only [Act.put,s1,s2,s3,i64_w,i32_w];rfl
       refine pure_ (i:=2) (N:=some 27) (v:=?_) (a':=?_) #[true,true,true,true,false,true,true,true,true,true,true,true,true,false,false,false,false] rfl rfl (any_of HT_.out (by kernel_rfl)) (fun _ _ _ h=>h) (Or.inl ⟨by rfl,?_⟩) ?_ ?_;rotate_left
       ·intro w';go_simp;with_reducible rfl
       rotate_left
       ·simp only [Act.put,s1,s2,s3,i64_w,i32_w];rfl
       refine take_ (i:=4) (N:=some 29) (v:=?_) (a':=?_) (tf 13 4) rfl rfl (take_ofW HT_.out HW_.out (by kernel_rfl)) (fun _ _ _ h=>h) (Or.inl ⟨by rfl,?_⟩) hHeld ?_ ?_;rotate_left
       ·rintro w' ⟨s0,s1⟩;go_simp;with_reducible rfl
       rotate_left
       ·simp only [Act.put,s1,s2,s3,i64_w,i32_w];rfl
       refine pure_ (i:=13) (N:=some 38) (v:=?_) (a':=?_) (tf 14 3) rfl rfl (any_of HT_.out (by kernel_rfl)) (fun _ _ _ h=>h) (Or.inl ⟨by rfl,?_⟩) ?_ ?_;rotate_left
       ·intro w';go_simp;with_reducible rfl
       rotate_left
       ·simp only [Act.put,s1,s2,s3,i64_w,i32_w];rfl
       refine pure_ (i:=14) (N:=some 39) (v:=?_) (a':=?_) (tf 15 2) rfl rfl (any_of HT_.out (by kernel_rfl)) (fun _ _ _ h=>h) (Or.inl ⟨by rfl,?_⟩) ?_ ?_;rotate_left
       ·intro w';go_simp;with_reducible rfl
       rotate_left
       ·simp only [Act.put,s1,s2,s3,i64_w,i32_w];rfl
       refine one_ (i:=15) (N:=none) (tf 16 1) rfl rfl (one_of HT_.out (by kernel_rfl)) (by decide) (fun K hK=>?_);have hs27:w26.cell? ⟨A8,0,none⟩=some (.int .i64 0):=(blk_cell A2.out 0).trans rfl;have hfs27:=blk_frozen A2.out 0;have hns27_0:=A4.out;have hms27_0:=A6.out;have hs28:w26.cell? ⟨A8,1,none⟩=some (.string (⟨#[]⟩:ByteArray)):=(blk_cell A2.out 1).trans rfl;have hfs28:=blk_frozen A2.out 1;have hns28_0:=A4.out;have hms28_0:=A6.out;refine skip_ (w1:=?_) (by rfl) rfl ?_ ?_;rotate_left
       ·go_simp;rfl
       refine hK.out _ _ ⟨((cell_far (p:=⟨A8,_,none⟩) A4.out _).trans (((cell_far (p:=⟨A8,_,none⟩) A4.out _).trans (hHeld.1)))),((cell_far (p:=⟨A8,_,none⟩) A4.out _).trans (((cell_far (p:=⟨A8,_,none⟩) A4.out _).trans (hHeld.2))))⟩ (fun hHeld=>?_);clear hK K;refine pure_ (i:=16) (N:=some 5) (v:=?_) (a':=?_) (tf 17 0) rfl rfl (any_of HT_.out (by kernel_rfl)) (fun _ _ _ h=>h) (Or.inl ⟨by rfl,?_⟩) ?_ ?_;rotate_left
       ·intro w';go_simp;with_reducible rfl
       rotate_left
       ·simp only [Act.put,s1,s2,s3,i64_w,i32_w];rfl
       refine done_ (done_of HT_.out (by kernel_rfl)) ?_
       try go_wp2
       refine bodyPost_ret (results_ct rfl _ _ A8 29 #[.int .i64 (wrap64 (A5 - 1)),.string (A0.extract ((ji15):Int).toNat ((wrap64 ((ji15) + (wrap64 ((A0.size:Int) / 2)))):Int).toNat)] (0,0) _ rfl (by (with_reducible repeat (first|refine blk_drewN ?_ _|refine blk_drew ?_|refine blk_alloc ?_ _));exact bp2 A2.out) Try.underlying29 rfl (by kernel_rfl)) rfl ?_;exact ⟨by first|rfl|(simp [errW_none,errW_some] <;> rfl)|(simp only [← hji15];first|rfl|(simp [errW_none,errW_some] <;> rfl))|(simp [*,errW_none,errW_some] <;> rfl),tb HB⟩
      ·rw [if_neg c18] at H;exact absurd H (by simp)
     ·rw [if_neg c17] at H;exact absurd H (by simp)
    ·rw [if_neg c16] at H;exact absurd H (by simp)
   ·replace c14:=Bool.eq_false_iff.mpr c14;subst c14
    have H1:(some (0,(⟨#[]⟩:ByteArray),false))=some (r1,r2,r3):=by rw [if_neg (show ¬ (false=true) by decide)] at H;exact H
    clear H;have H:=H1;clear H1;simp only [Option.some.injEq,Prod.mk.injEq] at H;obtain ⟨rfl,rfl,rfl⟩:=H
    go_enter Try.func61,Try.ntmps61
    go_wp2_with (first|((with_reducible refine gate_dst (N:=2) rfl ?_);refine bx (N:=2) (cs:=#[.int .i64 A5,.string A0]) (t:=29) ?_;intro A9 hg w29 hbox hb;have A1:=Aside0.mk (hbox);have Ad:=bz0 hg HB;have A7:=bz0 hg HB;replace HB:=bs0 HB hb;clear hb hbox hg)|((with_reducible refine gate_dst (N:=4) rfl ?_);refine bx (N:=4) (cs:=#[.int .i64 0,.string (⟨#[]⟩:ByteArray)]) (t:=29) ?_;intro A8 hg w30 hbox hb;have A2:=Aside0.mk (hbox);have Ae:=bz1 hg HB A7;have Aa:=bz1 hg HB A7;replace HB:=bs1 HB hb A7;have A4:=nl hg A1;have A6:=ng hg A1;replace A1:=bb A1 hb;clear hb hbox hg;have hnb31:=A4.out;have hnc31:=A6.out;have hcz32__:=c2_ A1;have hfz32__:=f_ A1)|((with_reducible refine gate_callee (f:=105) rfl ?_);refine goesL_ (some 8) rfl rfl Try.func105 (by kernel_rfl) rfl #[.agg #[.int .i64 A5,.string A0]] rfl ml ?_;(with_reducible refine (spec_TableOk.calls k A5 A0 true _ A3.out).mono ?_);rintro e w33 ⟨rfl,hb⟩;refine ⟨_,rfl,?_⟩;replace A1:=bb A1 hb;replace A2:=bb A2 hb;replace HB:=bs2 HB hb A7 Aa;(try clear hb);(try clear hb2);(try clear hk);(try clear hi);have hcz34__:=c2_ A1;have hfz34__:=f_ A1)|(go_at_call 63;(try simp only [i64_w,i32_w]);(with_reducible refine (spec_l01In.calls a1 0 1 false _ A13.out).mono ?_);rintro e w' ⟨rfl,⟨nd,rfl⟩⟩;(try (rw [drewN_self w33];generalize hq_:World.drewN w33 _=w33;have n0_:Aside0 (w33.heap[A9]? = some (.cells #[.int .i64 A5,.string A0] 29 (0,0))):=⟨by rw [← hq_];exact (dr A1)⟩;have n1_:Aside0 (w33.heap[A8]? = some (.cells #[.int .i64 0,.string (⟨#[]⟩:ByteArray)] 29 (0,0))):=⟨by rw [← hq_];exact (dr A2)⟩;have n2_:Aside0 (Below w.heap.size w w33):=⟨by rw [← hq_];exact (tb HB)⟩;clear A1 A2 HB hq_;have A1:=n0_;have A2:=n1_;have HB:=n2_;clear n0_ n1_ n2_));(try (have hcz35__:=c2_ A1;have hfz35__:=f_ A1));have hcz36__:=c2_ A2;have hfz36__:=f_ A2));refine bodyPost_ret (results_ct rfl _ _ A8 29 #[.int .i64 0,.string (⟨#[]⟩:ByteArray)] (0,0) _ rfl (by (with_reducible repeat (first|refine blk_drewN ?_ _|refine blk_drew ?_|refine blk_alloc ?_ _));exact bp2 A2.out) Try.underlying29 rfl (by kernel_rfl)) rfl ?_;exact ⟨er,tb HB⟩
 ·replace c4:=Bool.eq_false_iff.mpr c4;subst c4
  have H1:(some (0,(⟨#[]⟩:ByteArray),false))=some (r1,r2,r3):=by rw [if_neg (show ¬ (false=true) by decide)] at H;exact H
  clear H;have H:=H1;clear H1;simp only [Option.some.injEq,Prod.mk.injEq] at H;obtain ⟨rfl,rfl,rfl⟩:=H
  go_enter Try.func61,Try.ntmps61
  go_wp2_with (first|((with_reducible refine gate_dst (N:=2) rfl ?_);refine bx (N:=2) (cs:=#[.int .i64 A5,.string A0]) (t:=29) ?_;intro A9 hg w37 hbox hb;have A1:=Aside0.mk (hbox);have Ad:=bz0 hg HB;have A7:=bz0 hg HB;replace HB:=bs0 HB hb;clear hb hbox hg)|((with_reducible refine gate_dst (N:=4) rfl ?_);refine bx (N:=4) (cs:=#[.int .i64 0,.string (⟨#[]⟩:ByteArray)]) (t:=29) ?_;intro A8 hg w38 hbox hb;have A2:=Aside0.mk (hbox);have Ae:=bz1 hg HB A7;have Aa:=bz1 hg HB A7;replace HB:=bs1 HB hb A7;have A4:=nl hg A1;have A6:=ng hg A1;replace A1:=bb A1 hb;clear hb hbox hg;have hnb39:=A4.out;have hnc39:=A6.out;have hcz40__:=c2_ A1;have hfz40__:=f_ A1)|((with_reducible refine gate_callee (f:=105) rfl ?_);refine goesL_ (some 8) rfl rfl Try.func105 (by kernel_rfl) rfl #[.agg #[.int .i64 A5,.string A0]] rfl ml ?_;(with_reducible refine (spec_TableOk.calls k A5 A0 false _ A3.out).mono ?_);rintro e w41 ⟨rfl,hb⟩;refine ⟨_,rfl,?_⟩;replace A1:=bb A1 hb;replace A2:=bb A2 hb;replace HB:=bs2 HB hb A7 Aa;(try clear hb);(try clear hb2);(try clear hk);(try clear hi);have hcz42__:=c2_ A2;have hfz42__:=f_ A2));refine bodyPost_ret (results_ct rfl _ _ A8 29 #[.int .i64 0,.string (⟨#[]⟩:ByteArray)] (0,0) _ rfl (by (with_reducible repeat (first|refine blk_drewN ?_ _|refine blk_drew ?_|refine blk_alloc ?_ _));exact bp2 A2.out) Try.underlying29 rfl (by kernel_rfl)) rfl ?_;exact ⟨er,tb HB⟩
end Go.Proofs.Ytlpfmhikahlcoaa.G
