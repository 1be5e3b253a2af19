-- texts of this session, merged by a program of it (wip/gen/pack.py)
import Derived.Test.YtlpfmhikahlcoaaKFnWin2
import Derived.Test.YtlpfmhikahlcoaaKFnWin4
namespace Go.Proofs.Ytlpfmhikahlcoaa.G
open Go.Proofs.Ytlpfmhikahlcoaa.Sh Go.RowKit Go.Proofs.YtlpfmhikahlcoaaW.PrintWords Go.Proofs.YtlpfmhikahlcoaaW.PrintLast Go.Proofs.YtlpfmhikahlcoaaW.PrintMore
attribute [local go_sem] max2_int min2_int max_two min_two max_three min_three max_four min_four
set_option linter.unusedVariables false
set_option linter.unusedSimpArgs false
mutual
def spec_TableOk.j0:Nat→Bool→Int→ByteArray→Option (Bool)
 | 0,_,_,_=>none
 | k + 1,x16,x102000,x102001=>if x16=true then (some false) else (spec_TableOk.l0 k 0 x102000 x102001)
def spec_TableOk.l0:Nat→Int→Int→ByteArray→Option (Bool)
 | 0,_,_,_=>none
 | k + 1,x3,x102000,x102001=>if x3 < (x102001.size:Int) then (if 0≤x3 then (if (bt x102001 x3)=48 then (spec_TableOk.l0 k (wrap64 (x3 + 1)) x102000 x102001) else (if (bt x102001 x3)=49 then (spec_TableOk.l0 k (wrap64 (x3 + 1)) x102000 x102001) else (some false))) else (none)) else (some true)
end
def spec_TableOk.f (k:Nat) (A2:Int) (A0:ByteArray):Option (Bool):=(spec_l01In.f A2 0 12).bind fun A9=>(if A9=true then ((spec_l01Pow2.f k A2).bind fun A5=>(spec_TableOk.j0 k ((A0.size:Int) != A5) A2 A0)) else (spec_TableOk.j0 k true A2 A0))
set_option maxHeartbeats 80000000 in
set_option maxRecDepth 100000 in
theorem spec_TableOk.calls (k:Nat) (A2:Int) (A0:ByteArray) (r:Bool) (w:World) (h:spec_TableOk.f k A2 A0=some r) :
  Calls Try.prog 105 #[.agg #[.int .i64 A2,.string A0]] w fun e w'=>e = .returned (.bool r)∧Below w.heap.size w w':=by
 have hu29:=Try.underlying29;have HB:=Aside0.mk (Below.refl w.heap.size w);have H:((spec_l01In.f A2 0 12).bind fun A9=>(if A9=true then ((spec_l01Pow2.f k A2).bind fun A5=>(spec_TableOk.j0 k ((A0.size:Int) != A5) A2 A0)) else (spec_TableOk.j0 k true A2 A0)))=some r:=h;clear h;have HC2:=Aside0.mk H;clear H
 go_enter Try.func105,Try.ntmps105
 go_upto_region 1 with (first|((with_reducible refine gate_dst (N:=1) rfl ?_);(try (refine gate_guard (by rfl) ?_;dsimp only));refine bx (N:=1) (cs:=#[.int .i64 A2,.string A0]) (t:=29) ?_;intro A7 hg w3 hbox hb;have A3:=Aside0.mk (hbox);have Aa:=bz0 hg HB;have Ab:=bz0 hg HB;replace HB:=bs0 HB hb;clear hb hbox hg))
 repeat (go_quiet (first|((with_reducible refine gate_dst (N:=1) rfl ?_);(try (refine gate_guard (by rfl) ?_;dsimp only));refine bx (N:=1) (cs:=#[.int .i64 A2,.string A0]) (t:=29) ?_;intro A7 hg w3 hbox hb;have A3:=Aside0.mk (hbox);have Aa:=bz0 hg HB;have Ab:=bz0 hg HB;replace HB:=bs0 HB hb;clear hb hbox hg));go_upto_region 1 with (first|((with_reducible refine gate_dst (N:=1) rfl ?_);(try (refine gate_guard (by rfl) ?_;dsimp only));refine bx (N:=1) (cs:=#[.int .i64 A2,.string A0]) (t:=29) ?_;intro A7 hg w3 hbox hb;have A3:=Aside0.mk (hbox);have Aa:=bz0 hg HB;have Ab:=bz0 hg HB;replace HB:=bs0 HB hb;clear hb hbox hg)))
 (try simp only [Act.put,List.setIfInBounds_toArray,List.set_cons_zero,List.set_cons_succ])
 go_cut [16] (fun v16 wc=>∃ (kq:Nat) (A8:Bool),v16 = .bool A8∧Aside0 (spec_TableOk.j0 kq A8 A2 A0=some r)∧Aside0 (kq≤k)∧Aside0 (wc.heap[A7]? = some (.cells #[.int .i64 A2,.string A0] 29 (0,0)))∧Aside0 (Below w.heap.size w wc))
 case first =>
  have H:=HC2.out;clear HC2;replace H:=ob H;obtain ⟨A9,A40,H⟩:=H
  try dsimp only at H
  have A4:=Aside0.mk A40;clear A40
  by_cases c5:A9=true
  ·subst c5
   have H1:((spec_l01Pow2.f k A2).bind fun A5=>(spec_TableOk.j0 k ((A0.size:Int) != A5) A2 A0))=some r:=by rw [if_pos rfl] at H;exact H
   clear H;have H:=H1;clear H1;replace H:=ob H;obtain ⟨A5,A60,H⟩:=H;replace H:(spec_TableOk.j0 k ((A0.size:Int) != A5) A2 A0)=some r:=H;have A6:=Aside0.mk A60;clear A60;have H':=Aside0.mk H;clear H;have hcz7__:=c2_ A3;have hfz7__:=f_ A3;go_wp2_with (first|(go_at_call 63;(try simp only [i64_w,i32_w]);(with_reducible refine (spec_l01In.calls A2 0 12 true _ A4.out).mono ?_);rintro e w' ⟨rfl,⟨nd,rfl⟩⟩;(try exact dd))|(go_at_call 119;(try simp only [i64_w,i32_w]);(with_reducible refine (spec_l01Pow2.calls k A2 A5 _ A6.out).mono ?_);rintro e w' ⟨rfl,⟨nd,rfl⟩⟩;(try exact dd)))
   repeat (go_quiet (first|(go_at_call 63;(try simp only [i64_w,i32_w]);(with_reducible refine (spec_l01In.calls A2 0 12 true _ A4.out).mono ?_);rintro e w' ⟨rfl,⟨nd,rfl⟩⟩;(try exact dd))|(go_at_call 119;(try simp only [i64_w,i32_w]);(with_reducible refine (spec_l01Pow2.calls k A2 A5 _ A6.out).mono ?_);rintro e w' ⟨rfl,⟨nd,rfl⟩⟩;(try exact dd)));try go_wp2_with (first|(go_at_call 63;(try simp only [i64_w,i32_w]);(with_reducible refine (spec_l01In.calls A2 0 12 true _ A4.out).mono ?_);rintro e w' ⟨rfl,⟨nd,rfl⟩⟩;(try exact dd))|(go_at_call 119;(try simp only [i64_w,i32_w]);(with_reducible refine (spec_l01Pow2.calls k A2 A5 _ A6.out).mono ?_);rintro e w' ⟨rfl,⟨nd,rfl⟩⟩;(try exact dd))))
   go_meet
   case rel=>exact ⟨_,(((A0.size:Int) != A5)),(by first|rfl|(simp;done)|(simp [*];done)),H',⟨by first|omega|exact Nat.le_refl _⟩,⟨dr A3⟩,⟨by exact tb HB⟩⟩
  ·replace c5:=Bool.eq_false_iff.mpr c5;subst c5
   have H1:(spec_TableOk.j0 k true A2 A0)=some r:=by rw [if_neg (show ¬ (false=true) by decide)] at H;exact H
   clear H;have H:=H1;clear H1;have H':=Aside0.mk H;clear H;have hcz8__:=c2_ A3;have hfz8__:=f_ A3;go_wp2_with (first|(go_at_call 63;(try simp only [i64_w,i32_w]);(with_reducible refine (spec_l01In.calls A2 0 12 false _ A4.out).mono ?_);rintro e w' ⟨rfl,⟨nd,rfl⟩⟩;(try exact dd)))
   repeat (go_quiet (first|(go_at_call 63;(try simp only [i64_w,i32_w]);(with_reducible refine (spec_l01In.calls A2 0 12 false _ A4.out).mono ?_);rintro e w' ⟨rfl,⟨nd,rfl⟩⟩;(try exact dd)));try go_wp2_with (first|(go_at_call 63;(try simp only [i64_w,i32_w]);(with_reducible refine (spec_l01In.calls A2 0 12 false _ A4.out).mono ?_);rintro e w' ⟨rfl,⟨nd,rfl⟩⟩;(try exact dd))))
   go_meet
   case rel=>exact ⟨_,(true),(by first|rfl|(simp;done)|(simp [*];done)),H',⟨by first|omega|exact Nat.le_refl _⟩,⟨dr A3⟩,⟨by exact tb HB⟩⟩
 case rest =>
  clear HC2;(try clear c1);(try clear p2);(try clear c5);(try clear hcz7__);(try clear hcz8__);(try clear hfz7__);(try clear hfz8__);obtain ⟨kq,A8,rfl,HA,HJ1,A3,HB⟩:=hcut
  cases kq with
    | zero=>exact absurd HA.out (by simp [spec_TableOk.j0])
    | succ kj1 =>
   have H:=HA.out;clear HA;simp only [spec_TableOk.j0] at H
   by_cases c9:A8=true
   ·subst c9
    have H1:(some false)=some r:=by rw [if_pos rfl] at H;exact H
    clear H;have H:=H1;clear H1;obtain rfl:=os H;go_wp2
    repeat (go_quiet (fail);try go_wp2)
    go_ret;exact ⟨er,tb HB⟩
   ·replace c9:=Bool.eq_false_iff.mpr c9;subst c9
    have H1:(spec_TableOk.l0 kj1 0 A2 A0)=some r:=by rw [if_neg (show ¬ (false=true) by decide)] at H;exact H
    clear H;have H:=H1;clear H1;have H':=Aside0.mk H;clear H;go_wp2
    repeat (go_quiet (fail);try go_wp2)
    go_loopg [3] kj1 (fun kq v3 w'=>∃ (A1:Int),v3 = .int .i64 A1∧Aside0 (spec_TableOk.l0 kq A1 A2 A0=some r)∧Aside0 (kq≤kj1)∧Aside0 (w'.heap[A7]? = some (.cells #[.int .i64 A2,.string A0] 29 (0,0)))∧Aside0 (Below w.heap.size w w'))
    case atStart=>exact ⟨(0),(by first|rfl|(simp;done)|(simp [*];done)),H',⟨Nat.le_refl _⟩,⟨dr A3⟩,⟨by exact tb HB⟩⟩
    case round =>
     clear H';(try clear c1);(try clear p2);(try clear c5);(try clear c9);(try clear hcz7__);(try clear hcz8__);(try clear hfz7__);(try clear hfz8__);(try clear p2);obtain ⟨A1,rfl,HA,HK2,A3,HB⟩:=hrel
     cases gk with
          | zero=>exact absurd HA.out (by simp [spec_TableOk.l0])
          | succ k2 =>
      have H:=HA.out;clear HA;simp only [spec_TableOk.l0] at H
      by_cases c10:A1 < (A0.size:Int)
      ·rw [if_pos c10] at H;have c10b0:decide (A1 < (A0.size:Int))=true:=decide_eq_true c10;clear c10
       by_cases c11:0≤A1
       ·rw [if_pos c11] at H;have c11b0:decide (0≤A1)=true:=decide_eq_true c11;clear c11
        by_cases c13:(bt A0 A1)=48
        ·rw [if_pos c13] at H;have c13b0:((bt A0 A1) == 48)=true:=beq_iff_eq.mpr c13;have c13b1:((bt A0 A1) != 48)=false:=bne_eq_false_iff_eq.mpr c13;clear c13;have H':=Aside0.mk H;clear H;have hcz14__:=c2_ A3;have hfz14__:=f_ A3;have p12:0≤(A1:Int):=od;have q12:A1 < (A0.size:Int):=od;have hx12:=bt_at A0 A1;replace p12:=eq_true p12;replace q12:=eq_true q12;go_wp2
         repeat (go_quiet (fail);try go_wp2)
         go_roundg k2
         case measure=>have:=HJ1.out;have:=HK2.out;omega
         case rel=>exact ⟨(wrap64 (A1 + 1)),(by first|rfl|(simp;done)|(simp [*];done)),H',⟨by have:=HJ1.out;have:=HK2.out;omega⟩,⟨dr A3⟩,⟨by exact tb HB⟩⟩
        ·rw [if_neg c13] at H;have c13b0:((bt A0 A1) == 48)=false:=beq_eq_false_iff_ne.mpr c13;have c13b1:((bt A0 A1) != 48)=true:=bne_iff_ne.mpr c13
         by_cases c16:(bt A0 A1)=49
         ·rw [if_pos c16] at H;have c16b0:((bt A0 A1) == 49)=true:=beq_iff_eq.mpr c16;have c16b1:((bt A0 A1) != 49)=false:=bne_eq_false_iff_eq.mpr c16;clear c16;have H':=Aside0.mk H;clear H;have hcz17__:=c2_ A3;have hfz17__:=f_ A3;have p12:0≤(A1:Int):=od;have q12:A1 < (A0.size:Int):=od;have hx12:=bt_at A0 A1;replace p12:=eq_true p12;replace q12:=eq_true q12;have p15:0≤(A1:Int):=od;have q15:A1 < (A0.size:Int):=od;have hx15:=bt_at A0 A1;replace p15:=eq_true p15;replace q15:=eq_true q15;go_wp2
          repeat (go_quiet (fail);try go_wp2)
          go_roundg k2
          case measure=>have:=HJ1.out;have:=HK2.out;omega
          case rel=>exact ⟨(wrap64 (A1 + 1)),(by first|rfl|(simp;done)|(simp [*];done)),H',⟨by have:=HJ1.out;have:=HK2.out;omega⟩,⟨dr A3⟩,⟨by exact tb HB⟩⟩
         ·rw [if_neg c16] at H;have c16b0:((bt A0 A1) == 49)=false:=beq_eq_false_iff_ne.mpr c16;have c16b1:((bt A0 A1) != 49)=true:=bne_iff_ne.mpr c16;obtain rfl:=os H;have hcz18__:=c2_ A3;have hfz18__:=f_ A3;have p12:0≤(A1:Int):=od;have q12:A1 < (A0.size:Int):=od;have hx12:=bt_at A0 A1;replace p12:=eq_true p12;replace q12:=eq_true q12;have p15:0≤(A1:Int):=od;have q15:A1 < (A0.size:Int):=od;have hx15:=bt_at A0 A1;replace p15:=eq_true p15;replace q15:=eq_true q15;go_wp2
          repeat (go_quiet (fail);try go_wp2)
          go_ret;exact ⟨er,tb HB⟩
       ·rw [if_neg c11] at H;exact absurd H (by simp)
      ·rw [if_neg c10] at H;have c10b0:decide (A1 < (A0.size:Int))=false:=decide_eq_false c10;clear c10;obtain rfl:=os H;have hcz19__:=c2_ A3;have hfz19__:=f_ A3;go_wp2
       repeat (go_quiet (fail);try go_wp2)
       go_ret;exact ⟨er,tb HB⟩
end Go.Proofs.Ytlpfmhikahlcoaa.G
namespace Go.Proofs.Ytlpfmhikahlcoaa.G
open Go.Proofs.Ytlpfmhikahlcoaa.Sh
open Go.RowKit Go.Proofs.YtlpfmhikahlcoaaW.PrintWords Go.Proofs.YtlpfmhikahlcoaaW.PrintLast Go.Proofs.YtlpfmhikahlcoaaW.PrintMore
attribute [local go_sem] max2_int min2_int max_two min_two max_three min_three max_four min_four
set_option linter.unusedVariables false
set_option linter.unusedSimpArgs false
def spec_l08Ok.f (k:Nat) (l0:List Bool) (a1_0:Int) (a1_1:ByteArray):Option (Bool):=(spec_TableOk.f k a1_0 a1_1).bind fun A4=>(if A4=true then (some ((l0.length:Int) == a1_0)) else (some false))
set_option maxHeartbeats 8000000 in
set_option maxRecDepth 100000 in
theorem spec_l08Ok.calls (k:Nat) (A0:Option Addr) (c0:Nat) (l0:List Bool) (a1_0:Int) (a1_1:ByteArray) (r:Bool) (w:World) (hr0:Kd.C Kd.bool w A0 l0.length l0) (hc0:l0.length≤c0) (h:spec_l08Ok.f k l0 a1_0 a1_1=some r) :
  Calls Try.prog 57 #[.slice A0 l0.length c0,.agg #[.int .i64 a1_0,.string a1_1]] w fun e w'=>e = .returned (.bool r)∧Below w.heap.size w w':=by
 have hu29:=Try.underlying29;have HR0:=Aside0.mk hr0;have HC0:=Aside0.mk hc0;clear hr0 hc0;have HB:=Aside0.mk (Below.refl w.heap.size w);have H:((spec_TableOk.f k a1_0 a1_1).bind fun A4=>(if A4=true then (some ((l0.length:Int) == a1_0)) else (some false)))=some r:=h;clear h;replace H:=ob H;obtain ⟨A4,A30,H⟩:=H;replace H:(if A4=true then (some ((l0.length:Int) == a1_0)) else (some false))=some r:=H;have A3:=Aside0.mk A30;clear A30
 by_cases c4:A4=true
 ·subst c4
  have H1:(some ((l0.length:Int) == a1_0))=some r:=by rw [if_pos rfl] at H;exact H
  clear H;have H:=H1;clear H1;obtain rfl:=os H
  go_enter Try.func57,Try.ntmps57
  go_wp2_with (first|((with_reducible refine gate_dst (N:=3) rfl ?_);(try (refine gate_guard (by rfl) ?_;dsimp only));refine bx (N:=3) (cs:=#[.int .i64 a1_0,.string a1_1]) (t:=29) ?_;intro A2 hg w5 hbox hb;have A1:=Aside0.mk (hbox);have A5:=Aside0.mk ((by rw [hg];exact (below_size (tb HB)):w.heap.size≤A2));have A6:=Aside0.mk ((by rw [hg];exact (below_size (tb HB)):w.heap.size≤A2));replace HB:=Aside0.mk (below_step (tb HB) hb);clear hb hbox hg;have hcz6__:=c2_ A1;have hfz6__:=f_ A1)|((with_reducible refine gate_callee (f:=105) rfl ?_);refine goesL_ (some 6) rfl rfl Try.func105 (by kernel_rfl) rfl #[.agg #[.int .i64 a1_0,.string a1_1]] rfl ml ?_;(with_reducible refine (spec_TableOk.calls k a1_0 a1_1 true _ A3.out).mono ?_);rintro e w7 ⟨rfl,hb⟩;refine ⟨_,rfl,?_⟩;replace A1:=Aside0.mk (blk_below (g:=A2) (o := .cells #[.int .i64 a1_0,.string a1_1] 29 (0,0)) (dr A1) hb);replace HB:=Aside0.mk (below_step (tb HB) hb);(try clear hb);(try clear hb2);(try clear hk);(try clear hi);have hcz8__:=c2_ A1;have hfz8__:=f_ A1));go_ret;exact ⟨er,tb HB⟩
 ·replace c4:=Bool.eq_false_iff.mpr c4;subst c4
  have H1:(some false)=some r:=by rw [if_neg (show ¬ (false=true) by decide)] at H;exact H
  clear H;have H:=H1;clear H1;obtain rfl:=os H
  go_enter Try.func57,Try.ntmps57
  go_wp2_with (first|((with_reducible refine gate_dst (N:=3) rfl ?_);(try (refine gate_guard (by rfl) ?_;dsimp only));refine bx (N:=3) (cs:=#[.int .i64 a1_0,.string a1_1]) (t:=29) ?_;intro A2 hg w9 hbox hb;have A1:=Aside0.mk (hbox);have A5:=Aside0.mk ((by rw [hg];exact (below_size (tb HB)):w.heap.size≤A2));have A6:=Aside0.mk ((by rw [hg];exact (below_size (tb HB)):w.heap.size≤A2));replace HB:=Aside0.mk (below_step (tb HB) hb);clear hb hbox hg;have hcz10__:=c2_ A1;have hfz10__:=f_ A1)|((with_reducible refine gate_callee (f:=105) rfl ?_);refine goesL_ (some 6) rfl rfl Try.func105 (by kernel_rfl) rfl #[.agg #[.int .i64 a1_0,.string a1_1]] rfl ml ?_;(with_reducible refine (spec_TableOk.calls k a1_0 a1_1 false _ A3.out).mono ?_);rintro e w11 ⟨rfl,hb⟩;refine ⟨_,rfl,?_⟩;replace A1:=Aside0.mk (blk_below (g:=A2) (o := .cells #[.int .i64 a1_0,.string a1_1] 29 (0,0)) (dr A1) hb);replace HB:=Aside0.mk (below_step (tb HB) hb);(try clear hb);(try clear hb2);(try clear hk);(try clear hi)));go_ret;exact ⟨er,tb HB⟩
end Go.Proofs.Ytlpfmhikahlcoaa.G
namespace Go.Proofs.Ytlpfmhikahlcoaa.G
open Go.Proofs.Ytlpfmhikahlcoaa.Sh Go.RowKit Go.Proofs.YtlpfmhikahlcoaaW.PrintWords Go.Proofs.YtlpfmhikahlcoaaW.PrintLast Go.Proofs.YtlpfmhikahlcoaaW.PrintMore
attribute [local go_sem] max2_int min2_int max_two min_two max_three min_three max_four min_four
set_option linter.unusedVariables false
set_option linter.unusedSimpArgs false
def spec_Half.f (k:Nat) (A5:Int) (A1:ByteArray) (a1:Int):Option (Int × ByteArray × Bool):=(spec_TableOk.f k A5 A1).bind fun Ac=>(if Ac=true then (if A5=0 then (some (0,(⟨#[]⟩:ByteArray),false)) else ((spec_l01In.f a1 0 1).bind fun Ab=>(if Ab=true then (if 0≤(wrap64 (a1 * (wrap64 ((A1.size:Int) / 2)))) then (if (wrap64 (a1 * (wrap64 ((A1.size:Int) / 2))))≤(wrap64 ((wrap64 (a1 * (wrap64 ((A1.size:Int) / 2)))) + (wrap64 ((A1.size:Int) / 2)))) then (if (wrap64 ((wrap64 (a1 * (wrap64 ((A1.size:Int) / 2)))) + (wrap64 ((A1.size:Int) / 2))))≤(A1.size:Int) then (some (wrap64 (A5 - 1),A1.extract ((wrap64 (a1 * (wrap64 ((A1.size:Int) / 2)))):Int).toNat ((wrap64 ((wrap64 (a1 * (wrap64 ((A1.size:Int) / 2)))) + (wrap64 ((A1.size:Int) / 2)))):Int).toNat,true)) else (none)) else (none)) else (none)) else (some (0,(⟨#[]⟩:ByteArray),false))))) else (some (0,(⟨#[]⟩:ByteArray),false)))
def spec_Half.T4:Bool × List (List Nat × List Nat):=(true,[([],[]),([0],[0]),([1],[1]),([],[]),([3],[3]),([],[]),([],[]),([5,6],[5,6]),([],[]),([],[]),([8,9],[8,9]),([],[]),([10,11],[10,11]),([4,7,12],[4,7,12]),([2,13],[2,13]),([14,0,1,2,3,4,5,6,7,8,9,10,11,12,13,14],[14]),([15,0,1,2,3,4,5,6,7,8,9,10,11,12,13,14,15],[])])
def spec_Half.B4:List Nat:=[0,1,3,0,8,0,0,96,0,0,768,0,3840,8184,16383,32767,65535]
theorem spec_Half.tab4:rtab .any (opsOf Try.f61 4)=spec_Half.T4:=by kernel_rfl
theorem spec_Half.bits4:waitsOk spec_Half.T4.2 spec_Half.B4=true:=by kernel_rfl
set_option maxHeartbeats 80000000 in
set_option maxRecDepth 100000 in
theorem spec_Half.calls (k:Nat) (A5:Int) (A1:ByteArray) (a1:Int) (r1:Int) (r2:ByteArray) (r3:Bool) (w:World) (h:spec_Half.f k A5 A1 a1=some (r1,r2,r3)) :
  Calls Try.prog 61 #[.agg #[.int .i64 A5,.string A1],.int .i64 a1] w fun e w'=>e = .returned (.tuple #[.agg #[.int .i64 r1,.string r2],.bool r3])∧Below w.heap.size w w':=by
 have hu29:=Try.underlying29;have HB:=Aside0.mk (Below.refl w.heap.size w);have H:((spec_TableOk.f k A5 A1).bind fun Ac=>(if Ac=true then (if A5=0 then (some (0,(⟨#[]⟩:ByteArray),false)) else ((spec_l01In.f a1 0 1).bind fun Ab=>(if Ab=true then (if 0≤(wrap64 (a1 * (wrap64 ((A1.size:Int) / 2)))) then (if (wrap64 (a1 * (wrap64 ((A1.size:Int) / 2))))≤(wrap64 ((wrap64 (a1 * (wrap64 ((A1.size:Int) / 2)))) + (wrap64 ((A1.size:Int) / 2)))) then (if (wrap64 ((wrap64 (a1 * (wrap64 ((A1.size:Int) / 2)))) + (wrap64 ((A1.size:Int) / 2))))≤(A1.size:Int) then (some (wrap64 (A5 - 1),A1.extract ((wrap64 (a1 * (wrap64 ((A1.size:Int) / 2)))):Int).toNat ((wrap64 ((wrap64 (a1 * (wrap64 ((A1.size:Int) / 2)))) + (wrap64 ((A1.size:Int) / 2)))):Int).toNat,true)) else (none)) else (none)) else (none)) else (some (0,(⟨#[]⟩:ByteArray),false))))) else (some (0,(⟨#[]⟩:ByteArray),false))))=some (r1,r2,r3):=h;clear h;replace H:=ob H;obtain ⟨Ac,A30,H⟩:=H
 try dsimp only at H
 have A3:=Aside0.mk A30;clear A30
 by_cases c4:Ac=true
 ·subst c4
  have H1:(if A5=0 then (some (0,(⟨#[]⟩:ByteArray),false)) else ((spec_l01In.f a1 0 1).bind fun Ab=>(if Ab=true then (if 0≤(wrap64 (a1 * (wrap64 ((A1.size:Int) / 2)))) then (if (wrap64 (a1 * (wrap64 ((A1.size:Int) / 2))))≤(wrap64 ((wrap64 (a1 * (wrap64 ((A1.size:Int) / 2)))) + (wrap64 ((A1.size:Int) / 2)))) then (if (wrap64 ((wrap64 (a1 * (wrap64 ((A1.size:Int) / 2)))) + (wrap64 ((A1.size:Int) / 2))))≤(A1.size:Int) then (some (wrap64 (A5 - 1),A1.extract ((wrap64 (a1 * (wrap64 ((A1.size:Int) / 2)))):Int).toNat ((wrap64 ((wrap64 (a1 * (wrap64 ((A1.size:Int) / 2)))) + (wrap64 ((A1.size:Int) / 2)))):Int).toNat,true)) else (none)) else (none)) else (none)) else (some (0,(⟨#[]⟩:ByteArray),false)))))=some (r1,r2,r3):=by rw [if_pos rfl] at H;exact H
  clear H;have H:=H1;clear H1
  by_cases c5:A5=0
  ·rw [if_pos c5] at H;have c5b0:(A5 == 0)=true:=beq_iff_eq.mpr c5;have c5b1:(A5 != 0)=false:=bne_eq_false_iff_eq.mpr c5;clear c5;simp only [Option.some.injEq,Prod.mk.injEq] at H;obtain ⟨rfl,rfl,rfl⟩:=H
   go_enter Try.func61,Try.ntmps61
   go_wp2_with (first|((with_reducible refine gate_dst (N:=2) rfl ?_);refine bx (N:=2) (cs:=#[.int .i64 A5,.string A1]) (t:=29) ?_;intro A9 hg w6 hbox hb;have A0:=Aside0.mk (hbox);have Ad:=bz0 hg HB;have A7:=bz0 hg HB;replace HB:=bs0 HB hb;clear hb hbox hg)|((with_reducible refine gate_dst (N:=4) rfl ?_);refine bx (N:=4) (cs:=#[.int .i64 0,.string (⟨#[]⟩:ByteArray)]) (t:=29) ?_;intro A8 hg w7 hbox hb;have A2:=Aside0.mk (hbox);have Ae:=bz1 hg HB A7;have Aa:=bz1 hg HB A7;replace HB:=bs1 HB hb A7;have A4:=nl hg A0;have A6:=ng hg A0;replace A0:=bb A0 hb;clear hb hbox hg;have hnb8:=A4.out;have hnc8:=A6.out;have hcz9__:=c2_ A0;have hfz9__:=f_ A0)|((with_reducible refine gate_callee (f:=105) rfl ?_);refine goesL_ (some 8) rfl rfl Try.func105 (by kernel_rfl) rfl #[.agg #[.int .i64 A5,.string A1]] rfl ml ?_;(with_reducible refine (spec_TableOk.calls k A5 A1 true _ A3.out).mono ?_);rintro e w10 ⟨rfl,hb⟩;refine ⟨_,rfl,?_⟩;replace A0:=bb A0 hb;replace A2:=bb A2 hb;replace HB:=bs2 HB hb A7 Aa;(try clear hb);(try clear hb2);(try clear hk);(try clear hi);have hcz11__:=c2_ A0;have hfz11__:=f_ A0;have hcz12__:=c2_ A2;have hfz12__:=f_ A2));refine bodyPost_ret (results_ct rfl _ _ A8 29 #[.int .i64 0,.string (⟨#[]⟩:ByteArray)] (0,0) _ rfl (by (with_reducible repeat (first|refine blk_drewN ?_ _|refine blk_drew ?_|refine blk_alloc ?_ _));exact bp2 A2.out) Try.underlying29 rfl (by kernel_rfl)) rfl ?_;exact ⟨er,tb HB⟩
  ·rw [if_neg c5] at H;have c5b0:(A5 == 0)=false:=beq_eq_false_iff_ne.mpr c5;have c5b1:(A5 != 0)=true:=bne_iff_ne.mpr c5;replace H:=ob H;obtain ⟨Ab,A130,H⟩:=H
   try dsimp only at H
   have A13:=Aside0.mk A130;clear A130
   by_cases c14:Ab=true
   ·subst c14
    have H1:(if 0≤(wrap64 (a1 * (wrap64 ((A1.size:Int) / 2)))) then (if (wrap64 (a1 * (wrap64 ((A1.size:Int) / 2))))≤(wrap64 ((wrap64 (a1 * (wrap64 ((A1.size:Int) / 2)))) + (wrap64 ((A1.size:Int) / 2)))) then (if (wrap64 ((wrap64 (a1 * (wrap64 ((A1.size:Int) / 2)))) + (wrap64 ((A1.size:Int) / 2))))≤(A1.size:Int) then (some (wrap64 (A5 - 1),A1.extract ((wrap64 (a1 * (wrap64 ((A1.size:Int) / 2)))):Int).toNat ((wrap64 ((wrap64 (a1 * (wrap64 ((A1.size:Int) / 2)))) + (wrap64 ((A1.size:Int) / 2)))):Int).toNat,true)) else (none)) else (none)) else (none))=some (r1,r2,r3):=by rw [if_pos rfl] at H;exact H
    clear H;have H:=H1;clear H1;obtain ⟨ji15,hji15⟩:∃ j_:Int,(wrap64 (a1 * (wrap64 ((A1.size:Int) / 2))))=j_:=⟨_,rfl⟩
    replace H:(if 0≤(ji15) then (if (ji15)≤(wrap64 ((ji15) + (wrap64 ((A1.size:Int) / 2)))) then (if (wrap64 ((ji15) + (wrap64 ((A1.size:Int) / 2))))≤(A1.size:Int) then (some (wrap64 (A5 - 1),A1.extract ((ji15):Int).toNat ((wrap64 ((ji15) + (wrap64 ((A1.size:Int) / 2)))):Int).toNat,true)) else (none)) else (none)) else (none))=some (r1,r2,r3):=by first|(rw [hji15] at H;exact H)|(simp only [hji15] at H ⊢;exact H)
    (try rw [hji15] at A3)
    (try rw [hji15] at A13)
    have hji15w:(IntKind.i64.wrap (a1 * (wrap64 ((A1.size:Int) / 2))))=ji15:=(i64_w _).trans hji15
    by_cases c16:0≤(ji15)
    ·rw [if_pos c16] at H;have c16b0:=eq_true c16;have c16b1:decide (0≤(ji15))=true:=decide_eq_true c16;clear c16
     by_cases c17:(ji15)≤(wrap64 ((ji15) + (wrap64 ((A1.size:Int) / 2))))
     ·rw [if_pos c17] at H;have c17b0:=eq_true c17;have c17b1:decide ((ji15)≤(wrap64 ((ji15) + (wrap64 ((A1.size:Int) / 2)))))=true:=decide_eq_true c17
      by_cases c18:(wrap64 ((ji15) + (wrap64 ((A1.size:Int) / 2))))≤(A1.size:Int)
      ·rw [if_pos c18] at H;have c18b0:=eq_true c18;have c18b1:decide ((wrap64 ((ji15) + (wrap64 ((A1.size:Int) / 2))))≤(A1.size:Int))=true:=decide_eq_true c18;simp only [Option.some.injEq,Prod.mk.injEq] at H;obtain ⟨rfl,rfl,rfl⟩:=H
       go_enter Try.func61,Try.ntmps61
       try go_wp2_with (first|((with_reducible refine gate_dst (N:=2) rfl ?_);refine bx (N:=2) (cs:=#[.int .i64 A5,.string A1]) (t:=29) ?_;intro A9 hg w19 hbox hb;have A0:=Aside0.mk (hbox);have Ad:=bz0 hg HB;have A7:=bz0 hg HB;replace HB:=bs0 HB hb;clear hb hbox hg)|((with_reducible refine gate_dst (N:=4) rfl ?_);refine bx (N:=4) (cs:=#[.int .i64 0,.string (⟨#[]⟩:ByteArray)]) (t:=29) ?_;intro A8 hg w20 hbox hb;have A2:=Aside0.mk (hbox);have Ae:=bz1 hg HB A7;have Aa:=bz1 hg HB A7;replace HB:=bs1 HB hb A7;have A4:=nl hg A0;have A6:=ng hg A0;replace A0:=bb A0 hb;clear hb hbox hg;have hnb21:=A4.out;have hnc21:=A6.out;have hcz22__:=c2_ A0;have hfz22__:=f_ A0)|((with_reducible refine gate_callee (f:=105) rfl ?_);refine goesL_ (some 8) rfl rfl Try.func105 (by kernel_rfl) rfl #[.agg #[.int .i64 A5,.string A1]] rfl ml ?_;(with_reducible refine (spec_TableOk.calls k A5 A1 true _ A3.out).mono ?_);rintro e w23 ⟨rfl,hb⟩;refine ⟨_,rfl,?_⟩;replace A0:=bb A0 hb;replace A2:=bb A2 hb;replace HB:=bs2 HB hb A7 Aa;(try clear hb);(try clear hb2);(try clear hk);(try clear hi);have hcz24__:=c2_ A0;have hfz24__:=f_ A0)|(go_at_call 63;(try simp only [i64_w,i32_w]);(with_reducible refine (spec_l01In.calls a1 0 1 true _ A13.out).mono ?_);rintro e w' ⟨rfl,⟨nd,rfl⟩⟩;(try (rw [drewN_self w23];generalize hq_:World.drewN w23 _=w23;have n0_:Aside0 (w23.heap[A9]? = some (.cells #[.int .i64 A5,.string A1] 29 (0,0))):=⟨by rw [← hq_];exact (dr A0)⟩;have n1_:Aside0 (w23.heap[A8]? = some (.cells #[.int .i64 0,.string (⟨#[]⟩:ByteArray)] 29 (0,0))):=⟨by rw [← hq_];exact (dr A2)⟩;have n2_:Aside0 (Below w.heap.size w w23):=⟨by rw [← hq_];exact (tb HB)⟩;clear A0 A2 HB hq_;have A0:=n0_;have A2:=n1_;have HB:=n2_;clear n0_ n1_ n2_));(try (have hcz25__:=c2_ A0;have hfz25__:=f_ A0))))
       replace A0:=Aside0.mk (blk_drew A0.out);replace A2:=Aside0.mk (blk_drew A2.out);replace HB:=Aside0.mk (below_drew1 HB.out);refine start_ (n:=17) (S:=fun w'=>w'.cell? ⟨A9,0,none⟩=some (.int .i64 A5)∧w'.cell? ⟨A9,1,none⟩=some (.string A1)) (ds:=[]) (tf 0 17) (by kernel_rfl) rfl rfl ⟨(blk_cell A0.out 0).trans rfl,(blk_cell A0.out 1).trans rfl⟩ (fun hHeld=>?_);refine with_tabW spec_Half.tab4 spec_Half.bits4 (fun HT_ HW_=>?_);generalize w23.drew=w26 at A0 A2 HB hHeld ⊢;refine pure_ (i:=0) (N:=some 25) (v:=?_) (a':=?_) (tf 1 16) rfl rfl (any_of HT_.out (by kernel_rfl)) (fun _ _ _ h=>h) (Or.inl ⟨by rfl,?_⟩) ?_ ?_;rotate_left
       ·intro w';go_simp;with_reducible rfl
       rotate_left
       ·simp only [Act.put,s1,s2,s3,i64_w,i32_w];rfl
       refine pure_ (i:=3) (N:=some 28) (v:=?_) (a':=?_) #[true,false,false,true,false,false,false,false,false,false,false,false,false,false,false,false,false] rfl rfl (any_of HT_.out (by kernel_rfl)) (fun _ _ _ h=>h) (Or.inl ⟨by rfl,?_⟩) ?_ ?_;rotate_left
       ·intro w';go_simp;with_reducible rfl
       rotate_left
       ·simp only [Act.put,s1,s2,s3,i64_w,i32_w];rfl
       refine pure_ (i:=5) (N:=some 30) (v:=?_) (a':=?_) #[true,false,false,true,false,true,false,false,false,false,false,false,false,false,false,false,false] rfl rfl (any_of HT_.out (by kernel_rfl)) (fun _ _ _ h=>h) (Or.inl ⟨by rfl,?_⟩) ?_ ?_;rotate_left
       ·intro w';go_simp;with_reducible rfl
       rotate_left
       ·simp only [Act.put,s1,s2,s3,i64_w,i32_w];rfl
       refine pure_ (i:=6) (N:=some 31) (v:=?_) (a':=?_) #[true,false,false,true,false,true,true,false,false,false,false,false,false,false,false,false,false] rfl rfl (any_of HT_.out (by kernel_rfl)) (fun _ _ _ h=>h) (Or.inl ⟨by rfl,?_⟩) ?_ ?_;rotate_left
       ·intro w';go_simp;with_reducible rfl
       rotate_left
       ·simp only [Act.put,s1,s2,s3,i64_w,i32_w];rfl
       refine pure_ (i:=7) (N:=some 32) (v:=?_) (a':=?_) #[true,false,false,true,false,true,true,true,false,false,false,false,false,false,false,false,false] rfl rfl (any_of HT_.out (by kernel_rfl)) (fun _ _ _ h=>h) (Or.inl ⟨by rfl,?_⟩) ?_ ?_;rotate_left
       ·intro w';go_simp;with_reducible rfl
       rotate_left
       ·simp only [Act.put,s1,s2,s3,i64_w,i32_w];rfl
       refine pure_ (i:=8) (N:=some 33) (v:=?_) (a':=?_) #[true,false,false,true,false,true,true,true,true,false,false,false,false,false,false,false,false] rfl rfl (any_of HT_.out (by kernel_rfl)) (fun _ _ _ h=>h) (Or.inl ⟨by rfl,?_⟩) ?_ ?_;rotate_left
       ·intro w';go_simp;with_reducible rfl
       rotate_left
       ·simp only [Act.put,s1,s2,s3,i64_w,i32_w];rfl
       refine pure_ (i:=9) (N:=some 34) (v:=?_) (a':=?_) #[true,false,false,true,false,true,true,true,true,true,false,false,false,false,false,false,false] rfl rfl (any_of HT_.out (by kernel_rfl)) (fun _ _ _ h=>h) (Or.inl ⟨by rfl,?_⟩) ?_ ?_;rotate_left
       ·intro w';go_simp;with_reducible rfl
       rotate_left
       ·simp only [Act.put,s1,s2,s3,i64_w,i32_w];rfl
       refine pure_ (i:=10) (N:=some 35) (v:=?_) (a':=?_) #[true,false,false,true,false,true,true,true,true,true,true,false,false,false,false,false,false] rfl rfl (any_of HT_.out (by kernel_rfl)) (fun _ _ _ h=>h) (Or.inl ⟨by rfl,?_⟩) ?_ ?_;rotate_left
       ·intro w';go_simp;with_reducible rfl
       rotate_left
       ·simp only [Act.put,s1,s2,s3,i64_w,i32_w];rfl
       refine pure_ (i:=11) (N:=some 36) (v:=?_) (a':=?_) #[true,false,false,true,false,true,true,true,true,true,true,true,false,false,false,false,false] rfl rfl (any_of HT_.out (by kernel_rfl)) (fun _ _ _ h=>h) (Or.inl ⟨by rfl,?_⟩) ?_ ?_;rotate_left
       ·intro w';go_simp;with_reducible rfl
       rotate_left
       ·simp only [Act.put,s1,s2,s3,i64_w,i32_w];rfl
       refine pure_ (i:=12) (N:=some 37) (v:=?_) (a':=?_) #[true,false,false,true,false,true,true,true,true,true,true,true,true,false,false,false,false] rfl rfl (any_of HT_.out (by kernel_rfl)) (fun _ _ _ h=>h) (Or.inl ⟨by rfl,?_⟩) ?_ ?_;rotate_left
       ·intro w';go_simp;with_reducible rfl
       rotate_left
       ·simp only [Act.put,s1,s2,s3,i64_w,i32_w];rfl
       refine take_ (i:=1) (N:=some 26) (v:=?_) (a':=?_) #[true,true,false,true,false,true,true,true,true,true,true,true,true,false,false,false,false] rfl rfl (take_ofW HT_.out HW_.out (by kernel_rfl)) (fun _ _ _ h=>h) (Or.inl ⟨by rfl,?_⟩) hHeld ?_ ?_;rotate_left
       ·rintro w' ⟨s0,s1⟩;go_simp;with_reducible rfl
       rotate_left
       ·simp only [Act.put,s1,s2,s3,i64_w,i32_w];rfl
       refine pure_ (i:=2) (N:=some 27) (v:=?_) (a':=?_) #[true,true,true,true,false,true,true,true,true,true,true,true,true,false,false,false,false] rfl rfl (any_of HT_.out (by kernel_rfl)) (fun _ _ _ h=>h) (Or.inl ⟨by rfl,?_⟩) ?_ ?_;rotate_left
       ·intro w';go_simp;with_reducible rfl
       rotate_left
       ·simp only [Act.put,s1,s2,s3,i64_w,i32_w];rfl
       refine take_ (i:=4) (N:=some 29) (v:=?_) (a':=?_) (tf 13 4) rfl rfl (take_ofW HT_.out HW_.out (by kernel_rfl)) (fun _ _ _ h=>h) (Or.inl ⟨by rfl,?_⟩) hHeld ?_ ?_;rotate_left
       ·rintro w' ⟨s0,s1⟩;go_simp;with_reducible rfl
       rotate_left
       ·simp only [Act.put,s1,s2,s3,i64_w,i32_w];rfl
       refine pure_ (i:=13) (N:=some 38) (v:=?_) (a':=?_) (tf 14 3) rfl rfl (any_of HT_.out (by kernel_rfl)) (fun _ _ _ h=>h) (Or.inl ⟨by rfl,?_⟩) ?_ ?_;rotate_left
       ·intro w';go_simp;with_reducible rfl
       rotate_left
       ·simp only [Act.put,s1,s2,s3,i64_w,i32_w];rfl
       refine pure_ (i:=14) (N:=some 39) (v:=?_) (a':=?_) (tf 15 2) rfl rfl (any_of HT_.out (by kernel_rfl)) (fun _ _ _ h=>h) (Or.inl ⟨by rfl,?_⟩) ?_ ?_;rotate_left
       ·intro w';go_simp;with_reducible rfl
       rotate_left
       ·simp only [Act.put,s1,s2,s3,i64_w,i32_w];rfl
       refine one_ (i:=15) (N:=none) (tf 16 1) rfl rfl (one_of HT_.out (by kernel_rfl)) (by decide) (fun K hK=>?_);have hs27:w26.cell? ⟨A8,0,none⟩=some (.int .i64 0):=(blk_cell A2.out 0).trans rfl;have hfs27:=blk_frozen A2.out 0;have hns27_0:=A4.out;have hms27_0:=A6.out;have hs28:w26.cell? ⟨A8,1,none⟩=some (.string (⟨#[]⟩:ByteArray)):=(blk_cell A2.out 1).trans rfl;have hfs28:=blk_frozen A2.out 1;have hns28_0:=A4.out;have hms28_0:=A6.out;refine skip_ (w1:=?_) (by rfl) rfl ?_ ?_;rotate_left
       ·go_simp;rfl
       refine hK.out _ _ ⟨((cell_far (p:=⟨A8,_,none⟩) A4.out _).trans (((cell_far (p:=⟨A8,_,none⟩) A4.out _).trans (hHeld.1)))),((cell_far (p:=⟨A8,_,none⟩) A4.out _).trans (((cell_far (p:=⟨A8,_,none⟩) A4.out _).trans (hHeld.2))))⟩ (fun hHeld=>?_);clear hK K;refine pure_ (i:=16) (N:=some 5) (v:=?_) (a':=?_) (tf 17 0) rfl rfl (any_of HT_.out (by kernel_rfl)) (fun _ _ _ h=>h) (Or.inl ⟨by rfl,?_⟩) ?_ ?_;rotate_left
       ·intro w';go_simp;with_reducible rfl
       rotate_left
       ·simp only [Act.put,s1,s2,s3,i64_w,i32_w];rfl
       refine done_ (done_of HT_.out (by kernel_rfl)) ?_
       try go_wp2
       refine bodyPost_ret (results_ct rfl _ _ A8 29 #[.int .i64 (wrap64 (A5 - 1)),.string (A1.extract ((ji15):Int).toNat ((wrap64 ((ji15) + (wrap64 ((A1.size:Int) / 2)))):Int).toNat)] (0,0) _ rfl (by (with_reducible repeat (first|refine blk_drewN ?_ _|refine blk_drew ?_|refine blk_alloc ?_ _));exact bp2 A2.out) Try.underlying29 rfl (by kernel_rfl)) rfl ?_;exact ⟨by first|rfl|(simp [errW_none,errW_some] <;> rfl)|(simp only [← hji15];first|rfl|(simp [errW_none,errW_some] <;> rfl))|(simp [*,errW_none,errW_some] <;> rfl),tb HB⟩
      ·rw [if_neg c18] at H;exact absurd H (by simp)
     ·rw [if_neg c17] at H;exact absurd H (by simp)
    ·rw [if_neg c16] at H;exact absurd H (by simp)
   ·replace c14:=Bool.eq_false_iff.mpr c14;subst c14
    have H1:(some (0,(⟨#[]⟩:ByteArray),false))=some (r1,r2,r3):=by rw [if_neg (show ¬ (false=true) by decide)] at H;exact H
    clear H;have H:=H1;clear H1;simp only [Option.some.injEq,Prod.mk.injEq] at H;obtain ⟨rfl,rfl,rfl⟩:=H
    go_enter Try.func61,Try.ntmps61
    go_wp2_with (first|((with_reducible refine gate_dst (N:=2) rfl ?_);refine bx (N:=2) (cs:=#[.int .i64 A5,.string A1]) (t:=29) ?_;intro A9 hg w29 hbox hb;have A0:=Aside0.mk (hbox);have Ad:=bz0 hg HB;have A7:=bz0 hg HB;replace HB:=bs0 HB hb;clear hb hbox hg)|((with_reducible refine gate_dst (N:=4) rfl ?_);refine bx (N:=4) (cs:=#[.int .i64 0,.string (⟨#[]⟩:ByteArray)]) (t:=29) ?_;intro A8 hg w30 hbox hb;have A2:=Aside0.mk (hbox);have Ae:=bz1 hg HB A7;have Aa:=bz1 hg HB A7;replace HB:=bs1 HB hb A7;have A4:=nl hg A0;have A6:=ng hg A0;replace A0:=bb A0 hb;clear hb hbox hg;have hnb31:=A4.out;have hnc31:=A6.out;have hcz32__:=c2_ A0;have hfz32__:=f_ A0)|((with_reducible refine gate_callee (f:=105) rfl ?_);refine goesL_ (some 8) rfl rfl Try.func105 (by kernel_rfl) rfl #[.agg #[.int .i64 A5,.string A1]] rfl ml ?_;(with_reducible refine (spec_TableOk.calls k A5 A1 true _ A3.out).mono ?_);rintro e w33 ⟨rfl,hb⟩;refine ⟨_,rfl,?_⟩;replace A0:=bb A0 hb;replace A2:=bb A2 hb;replace HB:=bs2 HB hb A7 Aa;(try clear hb);(try clear hb2);(try clear hk);(try clear hi);have hcz34__:=c2_ A0;have hfz34__:=f_ A0)|(go_at_call 63;(try simp only [i64_w,i32_w]);(with_reducible refine (spec_l01In.calls a1 0 1 false _ A13.out).mono ?_);rintro e w' ⟨rfl,⟨nd,rfl⟩⟩;(try (rw [drewN_self w33];generalize hq_:World.drewN w33 _=w33;have n0_:Aside0 (w33.heap[A9]? = some (.cells #[.int .i64 A5,.string A1] 29 (0,0))):=⟨by rw [← hq_];exact (dr A0)⟩;have n1_:Aside0 (w33.heap[A8]? = some (.cells #[.int .i64 0,.string (⟨#[]⟩:ByteArray)] 29 (0,0))):=⟨by rw [← hq_];exact (dr A2)⟩;have n2_:Aside0 (Below w.heap.size w w33):=⟨by rw [← hq_];exact (tb HB)⟩;clear A0 A2 HB hq_;have A0:=n0_;have A2:=n1_;have HB:=n2_;clear n0_ n1_ n2_));(try (have hcz35__:=c2_ A0;have hfz35__:=f_ A0));have hcz36__:=c2_ A2;have hfz36__:=f_ A2));refine bodyPost_ret (results_ct rfl _ _ A8 29 #[.int .i64 0,.string (⟨#[]⟩:ByteArray)] (0,0) _ rfl (by (with_reducible repeat (first|refine blk_drewN ?_ _|refine blk_drew ?_|refine blk_alloc ?_ _));exact bp2 A2.out) Try.underlying29 rfl (by kernel_rfl)) rfl ?_;exact ⟨er,tb HB⟩
 ·replace c4:=Bool.eq_false_iff.mpr c4;subst c4
  have H1:(some (0,(⟨#[]⟩:ByteArray),false))=some (r1,r2,r3):=by rw [if_neg (show ¬ (false=true) by decide)] at H;exact H
  clear H;have H:=H1;clear H1;simp only [Option.some.injEq,Prod.mk.injEq] at H;obtain ⟨rfl,rfl,rfl⟩:=H
  go_enter Try.func61,Try.ntmps61
  go_wp2_with (first|((with_reducible refine gate_dst (N:=2) rfl ?_);refine bx (N:=2) (cs:=#[.int .i64 A5,.string A1]) (t:=29) ?_;intro A9 hg w37 hbox hb;have A0:=Aside0.mk (hbox);have Ad:=bz0 hg HB;have A7:=bz0 hg HB;replace HB:=bs0 HB hb;clear hb hbox hg)|((with_reducible refine gate_dst (N:=4) rfl ?_);refine bx (N:=4) (cs:=#[.int .i64 0,.string (⟨#[]⟩:ByteArray)]) (t:=29) ?_;intro A8 hg w38 hbox hb;have A2:=Aside0.mk (hbox);have Ae:=bz1 hg HB A7;have Aa:=bz1 hg HB A7;replace HB:=bs1 HB hb A7;have A4:=nl hg A0;have A6:=ng hg A0;replace A0:=bb A0 hb;clear hb hbox hg;have hnb39:=A4.out;have hnc39:=A6.out;have hcz40__:=c2_ A0;have hfz40__:=f_ A0)|((with_reducible refine gate_callee (f:=105) rfl ?_);refine goesL_ (some 8) rfl rfl Try.func105 (by kernel_rfl) rfl #[.agg #[.int .i64 A5,.string A1]] rfl ml ?_;(with_reducible refine (spec_TableOk.calls k A5 A1 false _ A3.out).mono ?_);rintro e w41 ⟨rfl,hb⟩;refine ⟨_,rfl,?_⟩;replace A0:=bb A0 hb;replace A2:=bb A2 hb;replace HB:=bs2 HB hb A7 Aa;(try clear hb);(try clear hb2);(try clear hk);(try clear hi);have hcz42__:=c2_ A2;have hfz42__:=f_ A2));refine bodyPost_ret (results_ct rfl _ _ A8 29 #[.int .i64 0,.string (⟨#[]⟩:ByteArray)] (0,0) _ rfl (by (with_reducible repeat (first|refine blk_drewN ?_ _|refine blk_drew ?_|refine blk_alloc ?_ _));exact bp2 A2.out) Try.underlying29 rfl (by kernel_rfl)) rfl ?_;exact ⟨er,tb HB⟩
def spec_Known.l0:Nat→Int→Int→ByteArray→Option (Int)
 | 0,_,_,_=>none
 | k + 1,x3,x102000,x102001=>if x3 < (x102001.size:Int) then (if 0≤x3 then (if 0 < (x102001.size:Int) then (if (bt x102001 x3)=(bt x102001 0) then (spec_Known.l0 k (wrap64 (x3 + 1)) x102000 x102001) else (some (-1))) else (none)) else (none)) else (if 0 < (x102001.size:Int) then (some (wrap64 ((wrap64 (bt x102001 0)) - 48))) else (none))
def spec_Known.f (k:Nat) (A3:Int) (A0:ByteArray):Option (Int):=(spec_TableOk.f k A3 A0).bind fun A8=>(if A8=true then (spec_Known.l0 k 1 A3 A0) else (some (-1)))
set_option maxHeartbeats 80000000 in
set_option maxRecDepth 100000 in
theorem spec_Known.calls (k:Nat) (A3:Int) (A0:ByteArray) (r:Int) (w:World) (h:spec_Known.f k A3 A0=some r) :
  Calls Try.prog 120 #[.agg #[.int .i64 A3,.string A0]] w fun e w'=>e = .returned (.int .i64 r)∧Below w.heap.size w w':=by
 have hu29:=Try.underlying29;have HB:=Aside0.mk (Below.refl w.heap.size w);have H:((spec_TableOk.f k A3 A0).bind fun A8=>(if A8=true then (spec_Known.l0 k 1 A3 A0) else (some (-1))))=some r:=h;clear h;replace H:=ob H;obtain ⟨A8,A20,H⟩:=H;replace H:(if A8=true then (spec_Known.l0 k 1 A3 A0) else (some (-1)))=some r:=H;have A2:=Aside0.mk A20;clear A20
 by_cases c3:A8=true
 ·subst c3
  have H1:(spec_Known.l0 k 1 A3 A0)=some r:=by rw [if_pos rfl] at H;exact H
  clear H;have H:=H1;clear H1;have H':=Aside0.mk H;clear H
  go_enter Try.func120,Try.ntmps120
  go_wp2_with (first|((with_reducible refine gate_dst (N:=1) rfl ?_);refine bx (N:=1) (cs:=#[.int .i64 A3,.string A0]) (t:=29) ?_;intro A6 hg w4 hbox hb;have A1:=Aside0.mk (hbox);have A7:=bz0 hg HB;have A5:=bz0 hg HB;replace HB:=bs0 HB hb;clear hb hbox hg;have hcz5__:=c2_ A1;have hfz5__:=f_ A1)|(go_at_call 105;(try simp only [i64_w,i32_w]);(with_reducible refine (spec_TableOk.calls k A3 A0 true _ A2.out).mono ?_);rintro e w6 ⟨rfl,hb⟩;replace A1:=bb A1 hb;replace HB:=bs1 HB hb A5;(try clear hb);(try clear hb2);(try clear hk);(try clear hi)))
  repeat (go_quiet (first|((with_reducible refine gate_dst (N:=1) rfl ?_);refine bx (N:=1) (cs:=#[.int .i64 A3,.string A0]) (t:=29) ?_;intro A6 hg w4 hbox hb;have A1:=Aside0.mk (hbox);have A7:=bz0 hg HB;have A5:=bz0 hg HB;replace HB:=bs0 HB hb;clear hb hbox hg;have hcz5__:=c2_ A1;have hfz5__:=f_ A1)|(go_at_call 105;(try simp only [i64_w,i32_w]);(with_reducible refine (spec_TableOk.calls k A3 A0 true _ A2.out).mono ?_);rintro e w6 ⟨rfl,hb⟩;replace A1:=bb A1 hb;replace HB:=bs1 HB hb A5;(try clear hb);(try clear hb2);(try clear hk);(try clear hi)));try go_wp2_with (first|((with_reducible refine gate_dst (N:=1) rfl ?_);refine bx (N:=1) (cs:=#[.int .i64 A3,.string A0]) (t:=29) ?_;intro A6 hg w4 hbox hb;have A1:=Aside0.mk (hbox);have A7:=bz0 hg HB;have A5:=bz0 hg HB;replace HB:=bs0 HB hb;clear hb hbox hg;have hcz5__:=c2_ A1;have hfz5__:=f_ A1)|(go_at_call 105;(try simp only [i64_w,i32_w]);(with_reducible refine (spec_TableOk.calls k A3 A0 true _ A2.out).mono ?_);rintro e w6 ⟨rfl,hb⟩;replace A1:=bb A1 hb;replace HB:=bs1 HB hb A5;(try clear hb);(try clear hb2);(try clear hk);(try clear hi))))
  go_loopg [3] k (fun kq v3 w'=>∃ (A4:Int),v3 = .int .i64 A4∧Aside0 (spec_Known.l0 kq A4 A3 A0=some r)∧Aside0 (kq≤k)∧Aside0 (w'.heap[A6]? = some (.cells #[.int .i64 A3,.string A0] 29 (0,0)))∧Aside0 (Below w.heap.size w w'))
  case atStart=>exact ⟨(1),(by first|rfl|(simp;done)|(simp [*];done)),H',⟨Nat.le_refl _⟩,⟨dr A1⟩,⟨by exact tb HB⟩⟩
  case round =>
   clear H';(try clear c1);(try clear p2);(try clear c3);(try clear hcz5__);(try clear hfz5__);obtain ⟨A4,rfl,HA,HK1,A1,HB⟩:=hrel
   cases gk with
      | zero=>exact absurd HA.out (by simp [spec_Known.l0])
      | succ k1 =>
    have H:=HA.out;clear HA;simp only [spec_Known.l0] at H
    by_cases c7:A4 < (A0.size:Int)
    ·rw [if_pos c7] at H;have c7b0:decide (A4 < (A0.size:Int))=true:=decide_eq_true c7;clear c7
     by_cases c8:0≤A4
     ·rw [if_pos c8] at H;have c8b0:decide (0≤A4)=true:=decide_eq_true c8;clear c8
      by_cases c10:0 < (A0.size:Int)
      ·rw [if_pos c10] at H;have c10b0:decide (0 < (A0.size:Int))=true:=decide_eq_true c10;have c10b1:decide (0 < A0.size)=true:=decide_eq_true (by omega);clear c10
       by_cases c12:(bt A0 A4)=(bt A0 0)
       ·rw [if_pos c12] at H;have c12b0:((bt A0 A4) == (bt A0 0))=true:=beq_iff_eq.mpr c12;have c12b1:((bt A0 A4) != (bt A0 0))=false:=bne_eq_false_iff_eq.mpr c12;clear c12;have H':=Aside0.mk H;clear H;have hcz13__:=c2_ A1;have hfz13__:=f_ A1;have p9:0≤(A4:Int):=od;have q9:A4 < (A0.size:Int):=od;have hx9:=bt_at A0 A4;replace p9:=eq_true p9;replace q9:=eq_true q9;have p11:0≤(0:Int):=(by omega);have q11:0 < A0.size:=(by have:(0:Int) < (A0.size:Int):=od;omega);have hx11:∀ h:0 < A0.size,((A0[0]'h).toNat:Int)=bt A0 0:=bt_at A0 0;clear p11;have qi11:(0 < (A0.size:Int))=True:=eq_true (od);replace q11:=eq_true q11;go_wp2
        repeat (go_quiet (fail);try go_wp2)
        go_roundg k1
        case measure=>have:=HK1.out;omega
        case rel=>exact ⟨(wrap64 (A4 + 1)),(by first|rfl|(simp;done)|(simp [*];done)),H',⟨by have:=HK1.out;omega⟩,⟨dr A1⟩,⟨by exact tb HB⟩⟩
       ·rw [if_neg c12] at H;have c12b0:((bt A0 A4) == (bt A0 0))=false:=beq_eq_false_iff_ne.mpr c12;have c12b1:((bt A0 A4) != (bt A0 0))=true:=bne_iff_ne.mpr c12;obtain rfl:=os H;have hcz14__:=c2_ A1;have hfz14__:=f_ A1;have p9:0≤(A4:Int):=od;have q9:A4 < (A0.size:Int):=od;have hx9:=bt_at A0 A4;replace p9:=eq_true p9;replace q9:=eq_true q9;have p11:0≤(0:Int):=(by omega);have q11:0 < A0.size:=(by have:(0:Int) < (A0.size:Int):=od;omega);have hx11:∀ h:0 < A0.size,((A0[0]'h).toNat:Int)=bt A0 0:=bt_at A0 0;clear p11;have qi11:(0 < (A0.size:Int))=True:=eq_true (od);replace q11:=eq_true q11;go_wp2
        repeat (go_quiet (fail);try go_wp2)
        go_ret;exact ⟨er,tb HB⟩
      ·rw [if_neg c10] at H;exact absurd H (by simp)
     ·rw [if_neg c8] at H;exact absurd H (by simp)
    ·rw [if_neg c7] at H;have c7b0:decide (A4 < (A0.size:Int))=false:=decide_eq_false c7;clear c7
     by_cases c15:0 < (A0.size:Int)
     ·rw [if_pos c15] at H;have c15b0:decide (0 < (A0.size:Int))=true:=decide_eq_true c15;have c15b1:decide (0 < A0.size)=true:=decide_eq_true (by omega);clear c15;obtain rfl:=os H;have hcz17__:=c2_ A1;have hfz17__:=f_ A1;have p16:0≤(0:Int):=(by omega);have q16:0 < A0.size:=(by have:(0:Int) < (A0.size:Int):=od;omega);have hx16:∀ h:0 < A0.size,((A0[0]'h).toNat:Int)=bt A0 0:=bt_at A0 0;clear p16;have qi16:(0 < (A0.size:Int))=True:=eq_true (od);replace q16:=eq_true q16;go_wp2
      repeat (go_quiet (fail);try go_wp2)
      go_ret;exact ⟨er,tb HB⟩
     ·rw [if_neg c15] at H;exact absurd H (by simp)
 ·replace c3:=Bool.eq_false_iff.mpr c3;subst c3
  have H1:(some (-1))=some r:=by rw [if_neg (show ¬ (false=true) by decide)] at H;exact H
  clear H;have H:=H1;clear H1;obtain rfl:=os H
  go_enter Try.func120,Try.ntmps120
  go_wp2_with (first|((with_reducible refine gate_dst (N:=1) rfl ?_);refine bx (N:=1) (cs:=#[.int .i64 A3,.string A0]) (t:=29) ?_;intro A6 hg w18 hbox hb;have A1:=Aside0.mk (hbox);have A7:=bz0 hg HB;have A5:=bz0 hg HB;replace HB:=bs0 HB hb;clear hb hbox hg;have hcz19__:=c2_ A1;have hfz19__:=f_ A1)|(go_at_call 105;(try simp only [i64_w,i32_w]);(with_reducible refine (spec_TableOk.calls k A3 A0 false _ A2.out).mono ?_);rintro e w20 ⟨rfl,hb⟩;replace A1:=bb A1 hb;replace HB:=bs1 HB hb A5;(try clear hb);(try clear hb2);(try clear hk);(try clear hi)))
  repeat (go_quiet (first|((with_reducible refine gate_dst (N:=1) rfl ?_);refine bx (N:=1) (cs:=#[.int .i64 A3,.string A0]) (t:=29) ?_;intro A6 hg w18 hbox hb;have A1:=Aside0.mk (hbox);have A7:=bz0 hg HB;have A5:=bz0 hg HB;replace HB:=bs0 HB hb;clear hb hbox hg;have hcz19__:=c2_ A1;have hfz19__:=f_ A1)|(go_at_call 105;(try simp only [i64_w,i32_w]);(with_reducible refine (spec_TableOk.calls k A3 A0 false _ A2.out).mono ?_);rintro e w20 ⟨rfl,hb⟩;replace A1:=bb A1 hb;replace HB:=bs1 HB hb A5;(try clear hb);(try clear hb2);(try clear hk);(try clear hi)));try go_wp2_with (first|((with_reducible refine gate_dst (N:=1) rfl ?_);refine bx (N:=1) (cs:=#[.int .i64 A3,.string A0]) (t:=29) ?_;intro A6 hg w18 hbox hb;have A1:=Aside0.mk (hbox);have A7:=bz0 hg HB;have A5:=bz0 hg HB;replace HB:=bs0 HB hb;clear hb hbox hg;have hcz19__:=c2_ A1;have hfz19__:=f_ A1)|(go_at_call 105;(try simp only [i64_w,i32_w]);(with_reducible refine (spec_TableOk.calls k A3 A0 false _ A2.out).mono ?_);rintro e w20 ⟨rfl,hb⟩;replace A1:=bb A1 hb;replace HB:=bs1 HB hb A5;(try clear hb);(try clear hb2);(try clear hk);(try clear hi))))
  go_ret;exact ⟨er,tb HB⟩
end Go.Proofs.Ytlpfmhikahlcoaa.G
namespace Go.Proofs.Ytlpfmhikahlcoaa.G
open Go.Proofs.Ytlpfmhikahlcoaa.Sh
open Go.RowKit Go.Proofs.YtlpfmhikahlcoaaW.PrintWords Go.Proofs.YtlpfmhikahlcoaaW.PrintLast Go.Proofs.YtlpfmhikahlcoaaW.PrintMore
attribute [local go_sem] max2_int min2_int max_two min_two max_three min_three max_four min_four
set_option linter.unusedVariables false
set_option linter.unusedSimpArgs false
def spec_l10Same.l0:Nat→List Int→List Int→Int→Option (Bool)
 | 0,_,_,_=>none
 | k + 1,x0,x1,x5=>if x5 < (x0.length:Int) then (if 0≤x5 then (if x5 < (x1.length:Int) then (if (rd x0 x5)=(rd x1 x5) then (spec_l10Same.l0 k x0 x1 (wrap64 (x5 + 1))) else (some false)) else (none)) else (none)) else (some true)
def spec_l10Same.f (k:Nat) (l0:List Int) (l1:List Int):Option (Bool):=if (l0.length:Int)=(l1.length:Int) then (spec_l10Same.l0 k l0 l1 0) else (some false)
set_option maxHeartbeats 8000000 in
set_option maxRecDepth 100000 in
theorem spec_l10Same.calls (k:Nat) (A0:Option Addr) (c0:Nat) (l0:List Int) (A1:Option Addr) (c1:Nat) (l1:List Int) (r:Bool) (w:World) (hr0:Kd.C (Kd.int .i64) w A0 l0.length l0) (hc0:l0.length≤c0) (hr1:Kd.C (Kd.int .i64) w A1 l1.length l1) (hc1:l1.length≤c1) (h:spec_l10Same.f k l0 l1=some r) :
  Calls Try.prog 130 #[.slice A0 l0.length c0,.slice A1 l1.length c1] w fun e w'=>e = .returned (.bool r)∧Drawn0 w w':=by
 have HR0:=Aside0.mk hr0;have HC0:=Aside0.mk hc0;clear hr0 hc0;have HR1:=Aside0.mk hr1;have HC1:=Aside0.mk hc1;clear hr1 hc1;have H:(if (l0.length:Int)=(l1.length:Int) then (spec_l10Same.l0 k l0 l1 0) else (some false))=some r:=h;clear h
 by_cases c3:(l0.length:Int)=(l1.length:Int)
 ·rw [if_pos c3] at H;have c3b0:((l0.length:Int) == (l1.length:Int))=true:=beq_iff_eq.mpr c3;have c3b1:((l0.length:Int) != (l1.length:Int))=false:=bne_eq_false_iff_eq.mpr c3
  have c3b2:(l0.length == l1.length)=true:=by first|simpa using c3|(simp at c3 ⊢;omega)
  clear c3;have H':=Aside0.mk H;clear H
  go_enter Try.func130,Try.ntmps130
  go_wp2
  repeat (go_quiet (fail);try go_wp2)
  go_loopg [5] k (fun kq v5 w'=>∃ (A2:Int),v5 = .int .i64 A2∧Aside0 (spec_l10Same.l0 kq l0 l1 A2=some r)∧Aside0 (kq≤k)∧Drawn0 w w')
  case atStart=>exact ⟨(0),(by first|rfl|(simp;done)|(simp [*];done)),H',⟨Nat.le_refl _⟩,by repeat (first|exact Drawn0.refl _|apply Drawn0.step)⟩
  case round =>
   clear H';(try clear c1);(try clear p2);(try clear c3);(try clear c3b0);(try clear c3b1);(try clear c3b2);obtain ⟨A2,rfl,HA,HK1,⟨m1,rfl⟩⟩:=hrel
   cases gk with
   | zero=>exact absurd HA.out (by simp [spec_l10Same.l0])
   | succ k1 =>
    have H:=HA.out;clear HA;simp only [spec_l10Same.l0] at H
    by_cases c4:A2 < (l0.length:Int)
    ·rw [if_pos c4] at H;have c4b0:decide (A2 < (l0.length:Int))=true:=decide_eq_true c4;clear c4
     by_cases c5:0≤A2
     ·rw [if_pos c5] at H;have c5b0:decide (0≤A2)=true:=decide_eq_true c5;clear c5
      by_cases c6:A2 < (l1.length:Int)
      ·rw [if_pos c6] at H;have c6b0:decide (A2 < (l1.length:Int))=true:=decide_eq_true c6;clear c6
       by_cases c7:(rd l0 A2)=(rd l1 A2)
       ·rw [if_pos c7] at H;have c7b0:((rd l0 A2) == (rd l1 A2))=true:=beq_iff_eq.mpr c7;have c7b1:((rd l0 A2) != (rd l1 A2))=false:=bne_eq_false_iff_eq.mpr c7;clear c7;have H':=Aside0.mk H;clear H;have p101:0≤(A2:Int):=od;have q101:A2 < (l0.length:Int):=od;obtain ⟨ad101,e101,hx101_0⟩:=Kd.at_int HR0.out A2 p101 q101;cases e101;replace p101:=eq_true p101;replace q101:=eq_true q101;have p102:0≤(A2:Int):=od;have q102:A2 < (l1.length:Int):=od;obtain ⟨ad102,e102,hx102_0⟩:=Kd.at_int HR1.out A2 p102 q102;cases e102;replace p102:=eq_true p102;replace q102:=eq_true q102;go_wp2
        repeat (go_quiet (fail);try go_wp2)
        go_roundg k1
        case measure=>have:=HK1.out;omega
        case rel=>exact ⟨(wrap64 (A2 + 1)),(by first|rfl|(simp;done)|(simp [*];done)),H',⟨by have:=HK1.out;omega⟩,by repeat (first|exact Drawn0.refl _|apply Drawn0.step)⟩
       ·rw [if_neg c7] at H;have c7b0:((rd l0 A2) == (rd l1 A2))=false:=beq_eq_false_iff_ne.mpr c7;have c7b1:((rd l0 A2) != (rd l1 A2))=true:=bne_iff_ne.mpr c7;obtain rfl:=os H;have p101:0≤(A2:Int):=od;have q101:A2 < (l0.length:Int):=od;obtain ⟨ad101,e101,hx101_0⟩:=Kd.at_int HR0.out A2 p101 q101;cases e101;replace p101:=eq_true p101;replace q101:=eq_true q101;have p102:0≤(A2:Int):=od;have q102:A2 < (l1.length:Int):=od;obtain ⟨ad102,e102,hx102_0⟩:=Kd.at_int HR1.out A2 p102 q102;cases e102;replace p102:=eq_true p102;replace q102:=eq_true q102;go_wp2
        repeat (go_quiet (fail);try go_wp2)
        go_ret;exact ⟨e1,dn⟩
      ·rw [if_neg c6] at H;exact absurd H (by simp)
     ·rw [if_neg c5] at H;exact absurd H (by simp)
    ·rw [if_neg c4] at H;have c4b0:decide (A2 < (l0.length:Int))=false:=decide_eq_false c4;clear c4;obtain rfl:=os H;go_wp2
     repeat (go_quiet (fail);try go_wp2)
     go_ret;exact ⟨e1,dn⟩
 ·rw [if_neg c3] at H;have c3b0:((l0.length:Int) == (l1.length:Int))=false:=beq_eq_false_iff_ne.mpr c3;have c3b1:((l0.length:Int) != (l1.length:Int))=true:=bne_iff_ne.mpr c3
  have c3b2:(l0.length == l1.length)=false:=by first|simpa using c3|(simp at c3 ⊢;omega)
  obtain rfl:=os H
  go_enter Try.func130,Try.ntmps130
  go_wp2
  repeat (go_quiet (fail);try go_wp2)
  go_ret;exact ⟨e1,dn⟩
def spec_l10Find.l0:Nat→List (S108)→List Int→Int→Option (Int)
 | 0,_,_,_=>none
 | k + 1,x0,x1,x5=>if x5 < (x0.length:Int) then (if 0≤x5 then ((spec_l10Same.f k ((rd_T108 x0 x5).f0) x1).bind fun A4=>(if A4=true then ((spec_l01In.f ((rd_T108 x0 x5).f1) 0 1).bind fun A3=>(if A3=true then (some ((rd_T108 x0 x5).f1)) else (some (-1)))) else (spec_l10Find.l0 k x0 x1 (wrap64 (x5 + 1))))) else (none)) else (some (-1))
def spec_l10Find.f (k:Nat) (l0:List (S108)) (l1:List Int):Option (Int):=spec_l10Find.l0 k l0 l1 0
set_option maxHeartbeats 8000000 in
set_option maxRecDepth 100000 in
theorem spec_l10Find.calls (k:Nat) (A0:Option Addr) (c0:Nat) (l0:List (S108)) (A1:Option Addr) (c1:Nat) (l1:List Int) (r:Int) (w:World) (hr0:Kd.C k108 w A0 l0.length l0) (hc0:l0.length≤c0) (hr1:Kd.C (Kd.int .i64) w A1 l1.length l1) (hc1:l1.length≤c1) (h:spec_l10Find.f k l0 l1=some r) :
  Calls Try.prog 121 #[.slice A0 l0.length c0,.slice A1 l1.length c1] w fun e w'=>e = .returned (.int .i64 r)∧Drawn0 w w':=by
 have HR0:=Aside0.mk hr0;have HC0:=Aside0.mk hc0;clear hr0 hc0;have HR1:=Aside0.mk hr1;have HC1:=Aside0.mk hc1;clear hr1 hc1;have H:(spec_l10Find.l0 k l0 l1 0)=some r:=h;clear h;have H':=Aside0.mk H;clear H
 go_enter Try.func121,Try.ntmps121
 go_wp2
 go_loopg [5] k (fun kq v5 w'=>∃ (A2:Int),v5 = .int .i64 A2∧Aside0 (spec_l10Find.l0 kq l0 l1 A2=some r)∧Aside0 (kq≤k)∧Drawn0 w w')
 case atStart=>exact ⟨(0),(by first|rfl|(simp;done)|(simp [*];done)),H',⟨Nat.le_refl _⟩,by repeat (first|exact Drawn0.refl _|apply Drawn0.step)⟩
 case round =>
  clear H';(try clear c1);(try clear p2);obtain ⟨A2,rfl,HA,HK1,⟨m1,rfl⟩⟩:=hrel
  cases gk with
  | zero=>exact absurd HA.out (by simp [spec_l10Find.l0])
  | succ k1 =>
   have H:=HA.out;clear HA;simp only [spec_l10Find.l0] at H
   by_cases c3:A2 < (l0.length:Int)
   ·rw [if_pos c3] at H;have c3b0:decide (A2 < (l0.length:Int))=true:=decide_eq_true c3;clear c3
    by_cases c4:0≤A2
    ·rw [if_pos c4] at H;have c4b0:decide (0≤A2)=true:=decide_eq_true c4;clear c4;replace H:=ob H;obtain ⟨A4,A50,H⟩:=H
     try dsimp only at H
     have A5:=Aside0.mk A50;clear A50
     by_cases c6:A4=true
     ·subst c6
      have H1:((spec_l01In.f ((rd_T108 l0 A2).f1) 0 1).bind fun A3=>(if A3=true then (some ((rd_T108 l0 A2).f1)) else (some (-1))))=some r:=by rw [if_pos rfl] at H;exact H
      clear H;have H:=H1;clear H1;replace H:=ob H;obtain ⟨A3,A70,H⟩:=H;replace H:(if A3=true then (some ((rd_T108 l0 A2).f1)) else (some (-1)))=some r:=H;have A7:=Aside0.mk A70;clear A70
      by_cases c8:A3=true
      ·subst c8
       have H1:(some ((rd_T108 l0 A2).f1))=some r:=by rw [if_pos rfl] at H;exact H
       clear H;have H:=H1;clear H1;obtain rfl:=os H;have p101:0≤(A2:Int):=od;have q101:A2 < (l0.length:Int):=od;obtain ⟨ad101,A101_0,c101_0,e101,hx101_0,hx101_1,hl101_0,hi101_0⟩:=at_T108 HR0.out A2 p101 q101;cases e101;have HR101_0:=Aside0.mk hi101_0;have HC101_0:=Aside0.mk hl101_0;clear hi101_0 hl101_0;replace p101:=eq_true p101;replace q101:=eq_true q101;go_wp2_with (first|((with_reducible refine gate_callee (f:=130) rfl ?_);refine goesL_ (some 18) rfl rfl Try.func130 (by kernel_rfl) rfl #[.slice A101_0 ((rd_T108 l0 A2).f0).length c101_0,.slice A1 l1.length c1] rfl ml ?_;(with_reducible refine (spec_l10Same.calls k1 _ _ ((rd_T108 l0 A2).f0) _ _ l1 true _ ?side1 ?side2 ?side3 ?side4 A5.out).mono ?_);(case side1=>exact cw HR101_0.out);(case side2=>exact HC101_0.out);(case side3=>exact cw HR1.out);(case side4=>exact HC1.out);rintro e w' ⟨rfl,⟨nd,rfl⟩⟩;refine ⟨_,rfl,?_⟩;have p103:0≤(A2:Int):=od;have q103:A2 < (l0.length:Int):=od;obtain ⟨ad103,A103_0,c103_0,e103,hx103_0,hx103_1,hl103_0,hi103_0⟩:=at_T108 HR0.out A2 p103 q103;obtain rfl:ad101=ad103:=(by injection e103);have HR103_0:=Aside0.mk hi103_0;have HC103_0:=Aside0.mk hl103_0;clear hi103_0 hl103_0;replace p103:=eq_true p103;replace q103:=eq_true q103;have ea_:=Option.some.inj (hx101_0.symm.trans hx103_0);injection ea_ with ea_ en_ ec_;subst ea_;subst ec_;clear en_)|((with_reducible refine gate_callee (f:=63) rfl ?_);refine goesL_ (some 24) rfl rfl Try.func63 (by kernel_rfl) rfl #[.int .i64 ((rd_T108 l0 A2).f1),.int .i64 0,.int .i64 1] rfl ml ?_;(with_reducible refine (spec_l01In.calls ((rd_T108 l0 A2).f1) 0 1 true _ A7.out).mono ?_);rintro e w' ⟨rfl,⟨nd,rfl⟩⟩;refine ⟨_,rfl,?_⟩;have p105:0≤(A2:Int):=od;have q105:A2 < (l0.length:Int):=od;obtain ⟨ad105,A105_0,c105_0,e105,hx105_0,hx105_1,hl105_0,hi105_0⟩:=at_T108 HR0.out A2 p105 q105;obtain rfl:ad101=ad105:=(by injection e105);have HR105_0:=Aside0.mk hi105_0;have HC105_0:=Aside0.mk hl105_0;clear hi105_0 hl105_0;replace p105:=eq_true p105;replace q105:=eq_true q105;have ea_:=Option.some.inj (hx101_0.symm.trans hx105_0);injection ea_ with ea_ en_ ec_;subst ea_;subst ec_;clear en_));go_ret;exact ⟨e1,dn⟩
      ·replace c8:=Bool.eq_false_iff.mpr c8;subst c8
       have H1:(some (-1))=some r:=by rw [if_neg (show ¬ (false=true) by decide)] at H;exact H
       clear H;have H:=H1;clear H1;obtain rfl:=os H;have p101:0≤(A2:Int):=od;have q101:A2 < (l0.length:Int):=od;obtain ⟨ad101,A101_0,c101_0,e101,hx101_0,hx101_1,hl101_0,hi101_0⟩:=at_T108 HR0.out A2 p101 q101;cases e101;have HR101_0:=Aside0.mk hi101_0;have HC101_0:=Aside0.mk hl101_0;clear hi101_0 hl101_0;replace p101:=eq_true p101;replace q101:=eq_true q101;go_wp2_with (first|((with_reducible refine gate_callee (f:=130) rfl ?_);refine goesL_ (some 18) rfl rfl Try.func130 (by kernel_rfl) rfl #[.slice A101_0 ((rd_T108 l0 A2).f0).length c101_0,.slice A1 l1.length c1] rfl ml ?_;(with_reducible refine (spec_l10Same.calls k1 _ _ ((rd_T108 l0 A2).f0) _ _ l1 true _ ?side1 ?side2 ?side3 ?side4 A5.out).mono ?_);(case side1=>exact cw HR101_0.out);(case side2=>exact HC101_0.out);(case side3=>exact cw HR1.out);(case side4=>exact HC1.out);rintro e w' ⟨rfl,⟨nd,rfl⟩⟩;refine ⟨_,rfl,?_⟩;have p103:0≤(A2:Int):=od;have q103:A2 < (l0.length:Int):=od;obtain ⟨ad103,A103_0,c103_0,e103,hx103_0,hx103_1,hl103_0,hi103_0⟩:=at_T108 HR0.out A2 p103 q103;obtain rfl:ad101=ad103:=(by injection e103);have HR103_0:=Aside0.mk hi103_0;have HC103_0:=Aside0.mk hl103_0;clear hi103_0 hl103_0;replace p103:=eq_true p103;replace q103:=eq_true q103;have ea_:=Option.some.inj (hx101_0.symm.trans hx103_0);injection ea_ with ea_ en_ ec_;subst ea_;subst ec_;clear en_)|((with_reducible refine gate_callee (f:=63) rfl ?_);refine goesL_ (some 24) rfl rfl Try.func63 (by kernel_rfl) rfl #[.int .i64 ((rd_T108 l0 A2).f1),.int .i64 0,.int .i64 1] rfl ml ?_;(with_reducible refine (spec_l01In.calls ((rd_T108 l0 A2).f1) 0 1 false _ A7.out).mono ?_);rintro e w' ⟨rfl,⟨nd,rfl⟩⟩;refine ⟨_,rfl,?_⟩));go_ret;exact ⟨e1,dn⟩
     ·replace c6:=Bool.eq_false_iff.mpr c6;subst c6
      have H1:(spec_l10Find.l0 k1 l0 l1 (wrap64 (A2 + 1)))=some r:=by rw [if_neg (show ¬ (false=true) by decide)] at H;exact H
      clear H;have H:=H1;clear H1;have H':=Aside0.mk H;clear H;have p101:0≤(A2:Int):=od;have q101:A2 < (l0.length:Int):=od;obtain ⟨ad101,A101_0,c101_0,e101,hx101_0,hx101_1,hl101_0,hi101_0⟩:=at_T108 HR0.out A2 p101 q101;cases e101;have HR101_0:=Aside0.mk hi101_0;have HC101_0:=Aside0.mk hl101_0;clear hi101_0 hl101_0;replace p101:=eq_true p101;replace q101:=eq_true q101;go_wp2_with (first|((with_reducible refine gate_callee (f:=130) rfl ?_);refine goesL_ (some 18) rfl rfl Try.func130 (by kernel_rfl) rfl #[.slice A101_0 ((rd_T108 l0 A2).f0).length c101_0,.slice A1 l1.length c1] rfl ml ?_;(with_reducible refine (spec_l10Same.calls k1 _ _ ((rd_T108 l0 A2).f0) _ _ l1 false _ ?side1 ?side2 ?side3 ?side4 A5.out).mono ?_);(case side1=>exact cw HR101_0.out);(case side2=>exact HC101_0.out);(case side3=>exact cw HR1.out);(case side4=>exact HC1.out);rintro e w' ⟨rfl,⟨nd,rfl⟩⟩;refine ⟨_,rfl,?_⟩));go_roundg k1
      case measure=>have:=HK1.out;omega
      case rel=>exact ⟨(wrap64 (A2 + 1)),(by first|rfl|(simp;done)|(simp [*];done)),H',⟨by have:=HK1.out;omega⟩,by repeat (first|exact Drawn0.refl _|apply Drawn0.step)⟩
    ·rw [if_neg c4] at H;exact absurd H (by simp)
   ·rw [if_neg c3] at H;have c3b0:decide (A2 < (l0.length:Int))=false:=decide_eq_false c3;clear c3;obtain rfl:=os H;go_wp2;go_ret;exact ⟨e1,dn⟩
end Go.Proofs.Ytlpfmhikahlcoaa.G
