-- texts of this session, merged by a program of it (wip/gen/pack.py)
import Derived.Test.YthipjoioicmcnaaKFnExactTableOf1
import Derived.Test.YthipjoioicmcnaaKFnExactTableOf2
import Derived.Test.YthipjoioicmcnaaKFnExactTableOf7
import Derived.Test.YthipjoioicmcnaaKFnExactTableOf10
import Derived.Test.YthipjoioicmcnaaKFnExactTableOf11
import Derived.Test.YthipjoioicmcnaaKFnExactTableOf9
import Derived.Test.YthipjoioicmcnaaKFnExactTableOf6
import Derived.Laws.BitsLemmas
import Derived.Test.YthipjoioicmcnaaKFnExactTableOf3
namespace Go.Proofs.Ythipjoioicmcnaa.G
open Go.Proofs.Ythipjoioicmcnaa.Sh
open Go.RowKit Go.Proofs.YthipjoioicmcnaaW.PrintWords Go.Proofs.YthipjoioicmcnaaW.PrintLast Go.Proofs.YthipjoioicmcnaaW.PrintMore
attribute [local go_sem] max2_int min2_int max_two min_two max_three min_three max_four min_four
set_option linter.unusedVariables false
set_option linter.unusedSimpArgs false
def spec_l05Bits.l0:Nat→List (S66)→Int→Int→Option (Int)
 | 0,_,_,_=>none
 | k + 1,x0,x3,x4=>if x4 < (x0.length:Int) then (if 0≤x4 then ((spec_l01In.f ((rd_T66 x0 x4).f2) 1 8).bind fun A3=>(if A3=true then (spec_l05Bits.l0 k x0 (wrap64 (x3 + ((rd_T66 x0 x4).f2))) (wrap64 (x4 + 1))) else (some 13))) else (none)) else (some x3)
def spec_l05Bits.f (k:Nat) (l0:List (S66)):Option (Int):=spec_l05Bits.l0 k l0 0 0
set_option maxHeartbeats 8000000 in
set_option maxRecDepth 100000 in
theorem spec_l05Bits.calls (k:Nat) (A0:Option Addr) (c0:Nat) (l0:List (S66)) (r:Int) (w:World) (hr0:Kd.C k66 w A0 l0.length l0) (hc0:l0.length≤c0) (h:spec_l05Bits.f k l0=some r) :
  Calls Try.prog 80 #[.slice A0 l0.length c0] w fun e w'=>e = .returned (.int .i64 r)∧Drawn0 w w':=by
 have HR0:=Aside0.mk hr0;have HC0:=Aside0.mk hc0;clear hr0 hc0;have H:(spec_l05Bits.l0 k l0 0 0)=some r:=h;clear h;have H':=Aside0.mk H;clear H
 go_enter Try.func80,Try.ntmps80
 go_wp2
 go_loopg [3,4] k (fun kq v3 v4 w'=>∃ (A2:Int) (A1:Int),v3 = .int .i64 A2∧v4 = .int .i64 A1∧Aside0 (spec_l05Bits.l0 kq l0 A2 A1=some r)∧Aside0 (kq≤k)∧Drawn0 w w')
 case atStart=>exact ⟨(0),(0),(by first|rfl|(simp;done)|(simp [*];done)),(by first|rfl|(simp;done)|(simp [*];done)),H',⟨Nat.le_refl _⟩,by repeat (first|exact Drawn0.refl _|apply Drawn0.step)⟩
 case round =>
  clear H';obtain ⟨A2,A1,rfl,rfl,HA,HK1,⟨m1,rfl⟩⟩:=hrel
  cases gk with
  | zero=>exact absurd HA.out (by simp [spec_l05Bits.l0])
  | succ k1 =>
   have H:=HA.out;clear HA;simp only [spec_l05Bits.l0] at H
   by_cases c2:A1 < (l0.length:Int)
   ·rw [if_pos c2] at H;have c2b0:decide (A1 < (l0.length:Int))=true:=decide_eq_true c2;clear c2
    by_cases c3:0≤A1
    ·rw [if_pos c3] at H;have c3b0:decide (0≤A1)=true:=decide_eq_true c3;clear c3;replace H:=ob H;obtain ⟨A3,A40,H⟩:=H;replace H:(if A3=true then (spec_l05Bits.l0 k1 l0 (wrap64 (A2 + ((rd_T66 l0 A1).f2))) (wrap64 (A1 + 1))) else (some 13))=some r:=H;have A4:=Aside0.mk A40;clear A40
     by_cases c5:A3=true
     ·subst c5
      have H1:(spec_l05Bits.l0 k1 l0 (wrap64 (A2 + ((rd_T66 l0 A1).f2))) (wrap64 (A1 + 1)))=some r:=by rw [if_pos rfl] at H;exact H
      clear H;have H:=H1;clear H1;have H':=Aside0.mk H;clear H;have p101:0≤(A1:Int):=od;have q101:A1 < (l0.length:Int):=od;obtain ⟨ad101,e101,hx101_0,hx101_1,hx101_2⟩:=at_T66 HR0.out A1 p101 q101;cases e101;replace p101:=eq_true p101;replace q101:=eq_true q101;go_wp2_with (first|((with_reducible refine gate_callee (f:=69) rfl ?_);refine goesL_ (some 16) rfl rfl Try.func69 (by kernel_rfl) rfl #[.int .i64 ((rd_T66 l0 A1).f2),.int .i64 1,.int .i64 8] rfl ml ?_;(with_reducible refine (spec_l01In.calls ((rd_T66 l0 A1).f2) 1 8 true _ A4.out).mono ?_);rintro e w' ⟨rfl,⟨nd,rfl⟩⟩;refine ⟨_,rfl,?_⟩;have p103:0≤(A1:Int):=od;have q103:A1 < (l0.length:Int):=od;obtain ⟨ad103,e103,hx103_0,hx103_1,hx103_2⟩:=at_T66 HR0.out A1 p103 q103;obtain rfl:ad101=ad103:=(by injection e103);replace p103:=eq_true p103;replace q103:=eq_true q103));go_roundg k1
      case measure=>have:=HK1.out;omega
      case rel=>exact ⟨(wrap64 (A2 + ((rd_T66 l0 A1).f2))),(wrap64 (A1 + 1)),(by first|rfl|(simp;done)|(simp [*];done)),(by first|rfl|(simp;done)|(simp [*];done)),H',⟨by have:=HK1.out;omega⟩,by repeat (first|exact Drawn0.refl _|apply Drawn0.step)⟩
     ·replace c5:=Bool.eq_false_iff.mpr c5;subst c5
      have H1:(some 13)=some r:=by rw [if_neg (show ¬ (false=true) by decide)] at H;exact H
      clear H;have H:=H1;clear H1;obtain rfl:=os H;have p101:0≤(A1:Int):=od;have q101:A1 < (l0.length:Int):=od;obtain ⟨ad101,e101,hx101_0,hx101_1,hx101_2⟩:=at_T66 HR0.out A1 p101 q101;cases e101;replace p101:=eq_true p101;replace q101:=eq_true q101;go_wp2_with (first|((with_reducible refine gate_callee (f:=69) rfl ?_);refine goesL_ (some 16) rfl rfl Try.func69 (by kernel_rfl) rfl #[.int .i64 ((rd_T66 l0 A1).f2),.int .i64 1,.int .i64 8] rfl ml ?_;(with_reducible refine (spec_l01In.calls ((rd_T66 l0 A1).f2) 1 8 false _ A4.out).mono ?_);rintro e w' ⟨rfl,⟨nd,rfl⟩⟩;refine ⟨_,rfl,?_⟩));go_ret;exact ⟨e1,dn⟩
    ·rw [if_neg c3] at H;exact absurd H (by simp)
   ·rw [if_neg c2] at H;have c2b0:decide (A1 < (l0.length:Int))=false:=decide_eq_false c2;clear c2;obtain rfl:=os H;go_wp2;go_ret;exact ⟨e1,dn⟩
mutual
def spec_TableOf.j0:Nat→List (S66)→List (S99)→Int→Bool→Option (Int × ByteArray × Bool)
 | 0,_,_,_,_=>none
 | k + 1,x0,x1,x6,x21=>if x21=true then (some (0,(⟨#[]⟩:ByteArray),false)) else ((spec_l04Zeros.f k).bind fun Ag=>(spec_TableOf.l0 k x0 x1 x6 (([]:List Int)) Ag 0))
def spec_TableOf.l0:Nat→List (S66)→List (S99)→Int→List Int→List Int→Int→Option (Int × ByteArray × Bool)
 | 0,_,_,_,_,_,_=>none
 | k + 1,x0,x1,x6,x7,x8,x9=>(spec_l01Pow2.f k x6).bind fun Ah=>(if x9 < Ah then (spec_TableOf.l1 k x0 x1 x6 x7 x8 x9 x6 0) else (some (x6,strOfNums x7,true)))
def spec_TableOf.l1:Nat→List (S66)→List (S99)→Int→List Int→List Int→Int→Int→Int→Option (Int × ByteArray × Bool)
 | 0,_,_,_,_,_,_,_,_=>none
 | k + 1,x0,x1,x6,x7,x8,x9,x10,x11=>if x11 < (x0.length:Int) then (if 0≤x11 then ((spec_l01Pow2.f k (wrap64 (x10 - ((rd_T66 x0 x11).f2)))).bind fun Af=>(if Af=0 then (none) else ((spec_l01Pow2.f k ((rd_T66 x0 x11).f2)).bind fun Ad=>(if Ad=0 then (none) else (if 0≤((rd_T66 x0 x11).f1) then (if ((rd_T66 x0 x11).f1) < (x8.length:Int) then (spec_TableOf.l1 k x0 x1 x6 x7 (x8.set (((rd_T66 x0 x11).f1):Int).toNat (Int.tmod (wrap64 (Int.tdiv x9 Af)) Ad)) x9 (wrap64 (x10 - ((rd_T66 x0 x11).f2))) (wrap64 (x11 + 1))) else (none)) else (none)))))) else (none)) else ((spec_l04At.f k x1 x8 (wrap64 ((x1.length:Int) - 1))).bind fun Aj=>(if x7.length < 140737488355328 then (spec_TableOf.l0 k x0 x1 x6 (x7 ++ [(wrap64 (48 + Aj)) % 256]) x8 (wrap64 (x9 + 1))) else (none)))
end
def spec_TableOf.f (k:Nat) (l0:List (S66)) (l1:List (S99)):Option (Int × ByteArray × Bool):=(spec_l05Bits.f k l0).bind fun A5=>((spec_FrontOk.f k l0 l1).bind fun Ai=>(if Ai=true then (spec_TableOf.j0 k l0 l1 A5 (decide (A5 > 12))) else (spec_TableOf.j0 k l0 l1 A5 true)))
def spec_TableOf.T14:Bool × List (List Nat × List Nat):=(true,[([],[]),([],[]),([],[]),([1,2],[1,2]),([3],[3]),([4],[4]),([],[]),([],[]),([7],[7]),([6,8],[6,8]),([],[]),([],[]),([10,11],[10,11]),([12],[12]),([13],[13]),([14,8],[14]),([9,15],[9,15]),([0,5,0,1,2,3,4,5,6,7,8,9,10,11,12,13,14,15,16],[0,5]),([17,16,15,0,1,2,3,4,5,6,7,8,9,10,11,12,13,14,15,16],[16,17])])
def spec_TableOf.B14:List Nat:=[0,0,0,6,14,30,0,0,128,448,0,0,3072,7168,15360,32128,65472,131071,262143]
theorem spec_TableOf.tab14:rtab .any (opsOf Try.f34 14)=spec_TableOf.T14:=by kernel_rfl
theorem spec_TableOf.bits14:waitsOk spec_TableOf.T14.2 spec_TableOf.B14=true:=by kernel_rfl
set_option maxHeartbeats 8000000 in
set_option maxRecDepth 100000 in
theorem spec_TableOf.calls (k:Nat) (A0:Option Addr) (c0:Nat) (l0:List (S66)) (A1:Option Addr) (c1:Nat) (l1:List (S99)) (r1:Int) (r2:ByteArray) (r3:Bool) (w:World) (hr0:Kd.C k66 w A0 l0.length l0) (hc0:l0.length≤c0) (hr1:Kd.C k99 w A1 l1.length l1) (hc1:l1.length≤c1) (h:spec_TableOf.f k l0 l1=some (r1,r2,r3)) :
  Calls Try.prog 34 #[.slice A0 l0.length c0,.slice A1 l1.length c1] w fun e w'=>e = .returned (.tuple #[.agg #[.int .i64 r1,.string r2],.bool r3])∧Below w.heap.size w w':=by
 have hu26:=Try.underlying26;have HR0:=Aside0.mk hr0;have HC0:=Aside0.mk hc0;clear hr0 hc0;have HR1:=Aside0.mk hr1;have HC1:=Aside0.mk hc1;clear hr1 hc1;have HB:=Aside0.mk (Below.refl w.heap.size w);have H:((spec_l05Bits.f k l0).bind fun A5=>((spec_FrontOk.f k l0 l1).bind fun Ai=>(if Ai=true then (spec_TableOf.j0 k l0 l1 A5 (decide (A5 > 12))) else (spec_TableOf.j0 k l0 l1 A5 true))))=some (r1,r2,r3):=h;clear h;replace H:=ob H;obtain ⟨A5,A30,H⟩:=H;replace H:((spec_FrontOk.f k l0 l1).bind fun Ai=>(if Ai=true then (spec_TableOf.j0 k l0 l1 A5 (decide (A5 > 12))) else (spec_TableOf.j0 k l0 l1 A5 true)))=some (r1,r2,r3):=H;have A3:=Aside0.mk A30;clear A30;have HC4:=Aside0.mk H;clear H
 go_enter Try.func34,Try.ntmps34
 go_upto_region 2 with (first|((with_reducible refine gate_dst (N:=4) rfl ?_);refine bx (N:=4) (cs:=#[.int .i64 0,.string (⟨#[]⟩:ByteArray)]) (t:=26) ?_;intro A7 hg w5 hbox hb;have A4:=Aside0.mk (hbox);have GW101:=Aside0.mk ((by rw [hg];exact (below_size (tb HB)):w.heap.size≤A7));have An:=Aside0.mk ((by rw [hg];exact (below_size (tb HB)):w.heap.size≤A7));replace HB:=Aside0.mk (below_step (tb HB) hb);clear hb hbox hg)|((with_reducible refine gate_callee (f:=80) rfl ?_);refine goesL_ (some 13) rfl rfl Try.func80 (by kernel_rfl) rfl #[.slice A0 l0.length c0] rfl ml ?_;(with_reducible refine (spec_l05Bits.calls k _ _ l0 A5 _ ?side1 ?side2 A3.out).mono ?_);(case side1=>exact cw (Kd.C_below HR0.out HB.out));(case side2=>exact HC0.out);rintro e w' ⟨rfl,⟨nd,rfl⟩⟩;refine ⟨_,rfl,?_⟩))
 (try simp only [Act.put,List.setIfInBounds_toArray,List.set_cons_zero,List.set_cons_succ])
 go_cut [21] (fun v21 wc=>∃ (kq:Nat) (Ak:Bool),v21 = .bool Ak∧Aside0 (spec_TableOf.j0 kq l0 l1 A5 Ak=some (r1,r2,r3))∧Aside0 (kq≤k)∧Aside0 (wc.heap[A7]? = some (.cells #[.int .i64 0,.string (⟨#[]⟩:ByteArray)] 26 (0,0)))∧Aside0 (Below w.heap.size w wc))
 case first =>
  have H:=HC4.out;clear HC4;replace H:=ob H;obtain ⟨Ai,A60,H⟩:=H;replace H:(if Ai=true then (spec_TableOf.j0 k l0 l1 A5 (decide (A5 > 12))) else (spec_TableOf.j0 k l0 l1 A5 true))=some (r1,r2,r3):=H;have A6:=Aside0.mk A60;clear A60
  by_cases c7:Ai=true
  ·subst c7
   have H1:(spec_TableOf.j0 k l0 l1 A5 (decide (A5 > 12)))=some (r1,r2,r3):=by rw [if_pos rfl] at H;exact H
   clear H;have H:=H1;clear H1;have H':=Aside0.mk H;clear H;go_wp2_with (first|((with_reducible refine gate_callee (f:=81) rfl ?_);refine goesL_ (some 16) rfl rfl Try.func81 (by kernel_rfl) rfl #[.slice A0 l0.length c0,.slice A1 l1.length c1] rfl ml ?_;(with_reducible refine (spec_FrontOk.calls k _ _ l0 _ _ l1 true _ ?side1 ?side2 ?side3 ?side4 A6.out).mono ?_);(case side1=>exact cw (Kd.C_below HR0.out HB.out));(case side2=>exact HC0.out);(case side3=>exact cw (Kd.C_below HR1.out HB.out));(case side4=>exact HC1.out);rintro e w8 ⟨rfl,hb⟩;refine ⟨_,rfl,?_⟩;replace A4:=Aside0.mk (blk_below (g:=A7) (o := .cells #[.int .i64 0,.string (⟨#[]⟩:ByteArray)] 26 (0,0)) (dr A4) hb);replace HB:=Aside0.mk (below_step (tb HB) hb);(try clear hb);(try clear hb2);(try clear hk);(try clear hi)));go_meet
   case rel=>exact ⟨_,(decide (A5 > 12)),(by first|rfl|(simp;done)|(simp [*];done)),H',⟨by first|omega|exact Nat.le_refl _⟩,⟨dr A4⟩,⟨by exact tb HB⟩⟩
  ·replace c7:=Bool.eq_false_iff.mpr c7;subst c7
   have H1:(spec_TableOf.j0 k l0 l1 A5 true)=some (r1,r2,r3):=by rw [if_neg (show ¬ (false=true) by decide)] at H;exact H
   clear H;have H:=H1;clear H1;have H':=Aside0.mk H;clear H;go_wp2_with (first|((with_reducible refine gate_callee (f:=81) rfl ?_);refine goesL_ (some 16) rfl rfl Try.func81 (by kernel_rfl) rfl #[.slice A0 l0.length c0,.slice A1 l1.length c1] rfl ml ?_;(with_reducible refine (spec_FrontOk.calls k _ _ l0 _ _ l1 false _ ?side1 ?side2 ?side3 ?side4 A6.out).mono ?_);(case side1=>exact cw (Kd.C_below HR0.out HB.out));(case side2=>exact HC0.out);(case side3=>exact cw (Kd.C_below HR1.out HB.out));(case side4=>exact HC1.out);rintro e w9 ⟨rfl,hb⟩;refine ⟨_,rfl,?_⟩;replace A4:=Aside0.mk (blk_below (g:=A7) (o := .cells #[.int .i64 0,.string (⟨#[]⟩:ByteArray)] 26 (0,0)) (dr A4) hb);replace HB:=Aside0.mk (below_step (tb HB) hb);(try clear hb);(try clear hb2);(try clear hk);(try clear hi)));go_meet
   case rel=>exact ⟨_,(true),(by first|rfl|(simp;done)|(simp [*];done)),H',⟨by first|omega|exact Nat.le_refl _⟩,⟨dr A4⟩,⟨by exact tb HB⟩⟩
 case rest =>
  clear HC4;(try clear c1);(try clear p2);(try clear c3);(try clear c7);(try clear c8);obtain ⟨kq,Ak,rfl,HA,HJ3,A4,HB⟩:=hcut
  cases kq with
  | zero=>exact absurd HA.out (by simp [spec_TableOf.j0])
  | succ kj3 =>
   have H:=HA.out;clear HA;simp only [spec_TableOf.j0] at H
   by_cases c10:Ak=true
   ·subst c10
    have H1:(some (0,(⟨#[]⟩:ByteArray),false))=some (r1,r2,r3):=by rw [if_pos rfl] at H;exact H
    clear H;have H:=H1;clear H1;simp only [Option.some.injEq,Prod.mk.injEq] at H;obtain ⟨rfl,rfl,rfl⟩:=H;have hcz11__:=c2_ A4;have hfz11__:=f_ A4;go_wp2;refine bodyPost_ret (results_ct rfl _ _ A7 26 #[.int .i64 0,.string (⟨#[]⟩:ByteArray)] (0,0) _ rfl (by (with_reducible repeat (first|refine blk_drewN ?_ _|refine blk_drew ?_|refine blk_alloc ?_ _));refine blk_put (cs:=#[.int .i64 0,.string (⟨#[]⟩:ByteArray)]) ?_ 1 _ rfl;(with_reducible repeat (first|refine blk_drewN ?_ _|refine blk_drew ?_|refine blk_alloc ?_ _));refine blk_put (cs:=#[.int .i64 0,.string (⟨#[]⟩:ByteArray)]) ?_ 0 _ rfl;(with_reducible repeat (first|refine blk_drewN ?_ _|refine blk_drew ?_|refine blk_alloc ?_ _));exact A4.out) Try.underlying26 rfl (by kernel_rfl)) rfl ?_;exact ⟨er,tb HB⟩
   ·replace c10:=Bool.eq_false_iff.mpr c10;subst c10
    have H1:((spec_l04Zeros.f kj3).bind fun Ag=>(spec_TableOf.l0 kj3 l0 l1 A5 (([]:List Int)) Ag 0))=some (r1,r2,r3):=by rw [if_neg (show ¬ (false=true) by decide)] at H;exact H
    clear H;have H:=H1;clear H1;obtain ⟨y104,hy104⟩:∃ y_:List Int,y_=(([]:List Int)):=⟨_,rfl⟩
    replace H:((spec_l04Zeros.f kj3).bind fun Ag=>(spec_TableOf.l0 kj3 l0 l1 A5 y104 Ag 0))=some (r1,r2,r3):=by first|(rw [hy104];with_reducible exact H)|(have H2_:=(Option.bind_some _ _).symm.trans H;rw [hy104];with_reducible exact H2_)|(have H2_:=(Option.bind_some _ _).symm.trans H;with_reducible exact H2_)|with_reducible exact H|(rw [hy104];exact H)|exact H
    have Ny104:=Aside0.mk hy104;clear hy104;replace H:=ob H;obtain ⟨Ag,A120,H⟩:=H;replace H:(spec_TableOf.l0 kj3 l0 l1 A5 y104 Ag 0)=some (r1,r2,r3):=H;have A12:=Aside0.mk A120;clear A120;have H':=Aside0.mk H;clear H;go_wp2_with (first|((with_reducible refine gate_dst (N:=23) rfl ?_);refine Kd.R_lit (Kd.int .u8) _ 5 ?hg (N:=23) ?hd (xs:=([]:List Int)) (inner:=[]) (ok:=fun _=>True) (okp:=fun _=>True) ?hr ?hp (fun _ hk=>hk) trivial (Below.refl _ _) (Nat.le_refl _) (by simp) ?_;(case hd=>rfl);(case hg=>rfl);(case hr=>first|(go_simp;done)|(go_simp;rfl));(case hp=>exact (Reps.none _ _));intro v105 w13 ho14 hb hg_ hnew_;clear hg_ hnew_;(first|rw [← Ny104.out] at ho14|(simp only [Int.reduceToNat] at ho14;rw [← Ny104.out] at ho14));have Am:=Aside0.mk (Kd.R_lower ho14 (below_size (tb HB)));replace A4:=Aside0.mk (blk_below (g:=A7) (o := .cells #[.int .i64 0,.string (⟨#[]⟩:ByteArray)] 26 (0,0)) (dr A4) hb);replace HB:=Aside0.mk (below_step (tb HB) hb);clear hb ho14)|((with_reducible refine gate_callee (f:=82) rfl ?_);refine goesL_ (some 24) rfl rfl Try.func82 (by kernel_rfl) rfl #[] rfl ml ?_;(with_reducible refine (spec_l04Zeros.calls kj3  Ag _ A12.out).mono ?_);rintro e w15 ⟨v108,rfl,ho0,hb⟩;refine ⟨_,rfl,?_⟩;replace Am:=Aside0.mk (Kd.R_below (ra Am) hb);have Ao:=Aside0.mk (Kd.R_lower ho0 (below_size (tb HB)));replace A4:=Aside0.mk (blk_below (g:=A7) (o := .cells #[.int .i64 0,.string (⟨#[]⟩:ByteArray)] 26 (0,0)) (dr A4) hb);replace HB:=Aside0.mk (below_step (tb HB) hb);(try clear hb);(try clear hb2);(try clear hk);(try clear hi);(try clear ho0)))
    go_loopg [7,9] kj3 (fun kq v7 v9 w'=>∃ (Aa:List Int) (Al:List Int) (A9:Int),v9 = .int .i64 A9∧Aside0 (spec_TableOf.l0 kq l0 l1 A5 Aa Al A9=some (r1,r2,r3))∧Aside0 (kq≤kj3)∧Aside0 (Kd.R (Kd.int .u8) 5 w' w.heap.size (fun _=>True) v7 Aa)∧Aside0 (Kd.R (Kd.int .i64) 3 w' w.heap.size (fun _=>True) v108 Al)∧Aside0 (w'.heap[A7]? = some (.cells #[.int .i64 0,.string (⟨#[]⟩:ByteArray)] 26 (0,0)))∧Aside0 (Below w.heap.size w w'))
    case atStart=>exact ⟨(y104),(Ag),(0),(by first|rfl|(simp;done)|(simp [*];done)),H',⟨Nat.le_refl _⟩,⟨ra Am⟩,⟨ra Ao⟩,⟨dr A4⟩,⟨by exact tb HB⟩⟩
    case round =>
     clear H';(try clear c1);(try clear p2);(try clear c3);(try clear c7);(try clear c8);(try clear c10);(try clear hcz11__);(try clear hfz11__);(try clear p2);obtain ⟨Aa,Al,A9,rfl,HA,HK2,Ab,A8,A4,HB⟩:=hrel
     cases gk with
     | zero=>exact absurd HA.out (by simp [spec_TableOf.l0])
     | succ k2 =>
      have H:=HA.out;clear HA;simp only [spec_TableOf.l0] at H;replace H:=ob H;obtain ⟨Ah,A160,H⟩:=H;replace H:(if A9 < Ah then (spec_TableOf.l1 k2 l0 l1 A5 Aa Al A9 A5 0) else (some (A5,strOfNums Aa,true)))=some (r1,r2,r3):=H;have A16:=Aside0.mk A160;clear A160
      by_cases c17:A9 < Ah
      ·rw [if_pos c17] at H;have c17b0:decide (A9 < Ah)=true:=decide_eq_true c17;clear c17;have H':=Aside0.mk H;clear H;go_wp2_with (first|((with_reducible refine gate_callee (f:=70) rfl ?_);refine goesL_ (some 27) rfl rfl Try.func70 (by kernel_rfl) rfl #[.int .i64 A5] rfl ml ?_;(with_reducible refine (spec_l01Pow2.calls k2 A5 Ah _ A16.out).mono ?_);rintro e w' ⟨rfl,⟨nd,rfl⟩⟩;refine ⟨_,rfl,?_⟩))
       go_loopg [10,11] k2 (fun kq v10 v11 w'=>∃ (Ac:List Int) (Ae:Int) (A2:Int),v10 = .int .i64 Ae∧v11 = .int .i64 A2∧Aside0 (spec_TableOf.l1 kq l0 l1 A5 Aa Ac A9 Ae A2=some (r1,r2,r3))∧Aside0 (kq≤k2)∧Aside0 (Kd.R (Kd.int .u8) 5 w' w.heap.size (fun _=>True) u7 Aa)∧Aside0 (Kd.R (Kd.int .i64) 3 w' w.heap.size (fun _=>True) v108 Ac)∧Aside0 (w'.heap[A7]? = some (.cells #[.int .i64 0,.string (⟨#[]⟩:ByteArray)] 26 (0,0)))∧Aside0 (Below w.heap.size w w'))
       case atStart=>exact ⟨(Al),(A5),(0),(by first|rfl|(simp;done)|(simp [*];done)),(by first|rfl|(simp;done)|(simp [*];done)),H',⟨Nat.le_refl _⟩,⟨ra Ab⟩,⟨ra A8⟩,⟨dr A4⟩,⟨by exact tb HB⟩⟩
       case round =>
        clear H';(try clear c1);(try clear p2);(try clear c3);(try clear c7);(try clear c8);(try clear c10);(try clear c17);(try clear c17b0);(try clear hcz11__);(try clear hfz11__);(try clear p2);obtain ⟨Ac,Ae,A2,rfl,rfl,HA,HK3,Ab,A8,A4,HB⟩:=hrel
        cases gk with
        | zero=>exact absurd HA.out (by simp [spec_TableOf.l1])
        | succ k3 =>
         have H:=HA.out;clear HA;simp only [spec_TableOf.l1] at H
         by_cases c18:A2 < (l0.length:Int)
         ·rw [if_pos c18] at H;have c18b0:decide (A2 < (l0.length:Int))=true:=decide_eq_true c18;clear c18
          by_cases c19:0≤A2
          ·rw [if_pos c19] at H;have c19b0:decide (0≤A2)=true:=decide_eq_true c19;clear c19;replace H:=ob H;obtain ⟨Af,A200,H⟩:=H;replace H:(if Af=0 then (none) else ((spec_l01Pow2.f k3 ((rd_T66 l0 A2).f2)).bind fun Ad=>(if Ad=0 then (none) else (if 0≤((rd_T66 l0 A2).f1) then (if ((rd_T66 l0 A2).f1) < (Ac.length:Int) then (spec_TableOf.l1 k3 l0 l1 A5 Aa (Ac.set (((rd_T66 l0 A2).f1):Int).toNat (Int.tmod (wrap64 (Int.tdiv A9 Af)) Ad)) A9 (wrap64 (Ae - ((rd_T66 l0 A2).f2))) (wrap64 (A2 + 1))) else (none)) else (none)))))=some (r1,r2,r3):=H;have A20:=Aside0.mk A200;clear A200
           by_cases c21:Af=0
           ·rw [if_pos c21] at H;exact absurd H (by simp)
           ·rw [if_neg c21] at H;have c21b0:(Af == 0)=false:=beq_eq_false_iff_ne.mpr c21;have c21b1:(Af != 0)=true:=bne_iff_ne.mpr c21;replace H:=ob H;obtain ⟨Ad,A220,H⟩:=H;replace H:(if Ad=0 then (none) else (if 0≤((rd_T66 l0 A2).f1) then (if ((rd_T66 l0 A2).f1) < (Ac.length:Int) then (spec_TableOf.l1 k3 l0 l1 A5 Aa (Ac.set (((rd_T66 l0 A2).f1):Int).toNat (Int.tmod (wrap64 (Int.tdiv A9 Af)) Ad)) A9 (wrap64 (Ae - ((rd_T66 l0 A2).f2))) (wrap64 (A2 + 1))) else (none)) else (none)))=some (r1,r2,r3):=H;have A22:=Aside0.mk A220;clear A220
            by_cases c23:Ad=0
            ·rw [if_pos c23] at H;exact absurd H (by simp)
            ·rw [if_neg c23] at H;have c23b0:(Ad == 0)=false:=beq_eq_false_iff_ne.mpr c23;have c23b1:(Ad != 0)=true:=bne_iff_ne.mpr c23
             by_cases c24:0≤((rd_T66 l0 A2).f1)
             ·rw [if_pos c24] at H;have c24b0:decide (0≤((rd_T66 l0 A2).f1))=true:=decide_eq_true c24;clear c24
              by_cases c25:((rd_T66 l0 A2).f1) < (Ac.length:Int)
              ·rw [if_pos c25] at H;have c25b0:decide (((rd_T66 l0 A2).f1) < (Ac.length:Int))=true:=decide_eq_true c25;clear c25;obtain ⟨y116,hy116⟩:∃ y_:List Int,y_=(Ac.set (((rd_T66 l0 A2).f1):Int).toNat (Int.tmod (wrap64 (Int.tdiv A9 Af)) Ad)):=⟨_,rfl⟩
               replace H:(spec_TableOf.l1 k3 l0 l1 A5 Aa y116 A9 (wrap64 (Ae - ((rd_T66 l0 A2).f2))) (wrap64 (A2 + 1)))=some (r1,r2,r3):=by first|(rw [hy116];with_reducible exact H)|(have H2_:=(Option.bind_some _ _).symm.trans H;rw [hy116];with_reducible exact H2_)|(have H2_:=(Option.bind_some _ _).symm.trans H;with_reducible exact H2_)|with_reducible exact H|(rw [hy116];exact H)|exact H
               have Ny116:=Aside0.mk hy116;clear hy116;have H':=Aside0.mk H;clear H;have p111:0≤(A2:Int):=od;have q111:A2 < (l0.length:Int):=od;obtain ⟨ad111,e111,hx111_0,hx111_1,hx111_2⟩:=at_T66 HR0.out A2 p111 q111;cases e111;replace hx111_0:=ct HB hx111_0;replace hx111_1:=ct HB hx111_1;replace hx111_2:=ct HB hx111_2;replace p111:=eq_true p111;replace q111:=eq_true q111
               try go_wp2
               have n0_:=Aside0.mk (Kd.R_drew Ab.out);have n1_:=Aside0.mk (Kd.R_drew A8.out);have n2_:=Aside0.mk (blk_drew A4.out);have n3_:=Aside0.mk (below_drew1 HB.out);clear Ab;clear A8;clear A4;clear HB;have Ab:=n0_;have A8:=n1_;have A4:=n2_;have HB:=n3_;clear n0_ n1_ n2_ n3_;have p112:0≤(A2:Int):=od;have q112:A2 < (l0.length:Int):=od;obtain ⟨ad112,e112,hx112_0,hx112_1,hx112_2⟩:=at_T66 HR0.out A2 p112 q112;have hw112_2:=hx112_2;have hw112_1:=hx112_1;have hw112_0:=hx112_0;obtain rfl:ad111=ad112:=(by injection e112);replace hx112_0:=ct HB hx112_0;replace hx112_1:=ct HB hx112_1;replace hx112_2:=ct HB hx112_2;replace p112:=eq_true p112;replace q112:=eq_true q112;have p114:0≤(A2:Int):=od;have q114:A2 < (l0.length:Int):=od;obtain ⟨ad114,e114,hx114_0,hx114_1,hx114_2⟩:=at_T66 HR0.out A2 p114 q114;have hw114_2:=hx114_2;have hw114_1:=hx114_1;have hw114_0:=hx114_0;obtain rfl:ad111=ad114:=(by injection e114);replace hx114_0:=ct HB hx114_0;replace hx114_1:=ct HB hx114_1;replace hx114_2:=ct HB hx114_2;replace p114:=eq_true p114;replace q114:=eq_true q114;refine start_ (n:=19) (S:=fun w'=>w'.cell? (ad111.add ((A2).toNat * 3))=some (.bool ((rd_T66 l0 A2).f0))∧w'.cell? ⟨(ad111.add ((A2).toNat * 3)).block,(ad111.add ((A2).toNat * 3)).off + 1,none⟩=some (.int .i64 ((rd_T66 l0 A2).f1))∧w'.cell? ⟨(ad111.add ((A2).toNat * 3)).block,(ad111.add ((A2).toNat * 3)).off + 2,none⟩=some (.int .i64 ((rd_T66 l0 A2).f2))∧w'.cell? (ad111.add ((A2).toNat * 3))=some (.bool ((rd_T66 l0 A2).f0))∧w'.cell? ⟨(ad111.add ((A2).toNat * 3)).block,(ad111.add ((A2).toNat * 3)).off + 1,none⟩=some (.int .i64 ((rd_T66 l0 A2).f1))∧w'.cell? ⟨(ad111.add ((A2).toNat * 3)).block,(ad111.add ((A2).toNat * 3)).off + 2,none⟩=some (.int .i64 ((rd_T66 l0 A2).f2))) (ds:=[18]) (tf 0 19) (by kernel_rfl) rfl rfl ⟨(ct HB hw112_0 :),(ct HB hw112_1 :),(ct HB hw112_2 :),(ct HB hw114_0 :),(ct HB hw114_1 :),(ct HB hw114_2 :)⟩ (fun hHeld=>?_);refine with_tabW spec_TableOf.tab14 spec_TableOf.bits14 (fun HT_ HW_=>?_);generalize wr.drew=w27 at Ab A8 A4 HB hx112_0 hx112_1 hx112_2 hx114_0 hx114_1 hx114_2 hHeld ⊢;refine pure_ (i:=0) (N:=some 45) (v:=?_) (a':=?_) (tf 1 18) rfl rfl (any_of HT_.out (by kernel_rfl)) (fun _ _ _ h=>h) (Or.inl ⟨by rfl,?_⟩) ?_ ?_;rotate_left
               ·intro w';go_simp;with_reducible rfl
               rotate_left
               ·simp only [Act.put,s1,s2,s3,i64_w,i32_w];rfl
               refine pure_ (i:=1) (N:=some 46) (v:=?_) (a':=?_) (tf 2 17) rfl rfl (any_of HT_.out (by kernel_rfl)) (fun _ _ _ h=>h) (Or.inl ⟨by rfl,?_⟩) ?_ ?_;rotate_left
               ·intro w';go_simp;with_reducible rfl
               rotate_left
               ·simp only [Act.put,s1,s2,s3,i64_w,i32_w];rfl
               refine pure_ (i:=2) (N:=some 47) (v:=?_) (a':=?_) (tf 3 16) rfl rfl (any_of HT_.out (by kernel_rfl)) (fun _ _ _ h=>h) (Or.inl ⟨by rfl,?_⟩) ?_ ?_;rotate_left
               ·intro w';go_simp;with_reducible rfl
               rotate_left
               ·simp only [Act.put,s1,s2,s3,i64_w,i32_w];rfl
               refine pure_ (i:=3) (N:=some 48) (v:=?_) (a':=?_) (tf 4 15) rfl rfl (any_of HT_.out (by kernel_rfl)) (fun _ _ _ h=>h) (Or.inl ⟨by rfl,?_⟩) ?_ ?_;rotate_left
               ·intro w';go_simp;with_reducible rfl
               rotate_left
               ·simp only [Act.put,s1,s2,s3,i64_w,i32_w];rfl
               refine pure_ (i:=4) (N:=some 49) (v:=?_) (a':=?_) (tf 5 14) rfl rfl (any_of HT_.out (by kernel_rfl)) (fun _ _ _ h=>h) (Or.inl ⟨by rfl,?_⟩) ?_ ?_;rotate_left
               ·intro w';go_simp;with_reducible rfl
               rotate_left
               ·simp only [Act.put,s1,s2,s3,i64_w,i32_w];rfl
               refine pure_ (i:=6) (N:=some 51) (v:=?_) (a':=?_) #[true,true,true,true,true,false,true,false,false,false,false,false,false,false,false,false,false,false,false] rfl rfl (any_of HT_.out (by kernel_rfl)) (fun _ _ _ h=>h) (Or.inl ⟨by rfl,?_⟩) ?_ ?_;rotate_left
               ·intro w';go_simp;with_reducible rfl
               rotate_left
               ·simp only [Act.put,s1,s2,s3,i64_w,i32_w];rfl
               refine pure_ (i:=7) (N:=some 52) (v:=?_) (a':=?_) #[true,true,true,true,true,false,true,true,false,false,false,false,false,false,false,false,false,false,false] rfl rfl (any_of HT_.out (by kernel_rfl)) (fun _ _ _ h=>h) (Or.inl ⟨by rfl,?_⟩) ?_ ?_;rotate_left
               ·intro w';go_simp;with_reducible rfl
               rotate_left
               ·simp only [Act.put,s1,s2,s3,i64_w,i32_w];rfl
               refine pure_ (i:=10) (N:=some 55) (v:=?_) (a':=?_) #[true,true,true,true,true,false,true,true,false,false,true,false,false,false,false,false,false,false,false] rfl rfl (any_of HT_.out (by kernel_rfl)) (fun _ _ _ h=>h) (Or.inl ⟨by rfl,?_⟩) ?_ ?_;rotate_left
               ·intro w';go_simp;with_reducible rfl
               rotate_left
               ·simp only [Act.put,s1,s2,s3,i64_w,i32_w];rfl
               refine pure_ (i:=11) (N:=some 56) (v:=?_) (a':=?_) #[true,true,true,true,true,false,true,true,false,false,true,true,false,false,false,false,false,false,false] rfl rfl (any_of HT_.out (by kernel_rfl)) (fun _ _ _ h=>h) (Or.inl ⟨by rfl,?_⟩) ?_ ?_;rotate_left
               ·intro w';go_simp;with_reducible rfl
               rotate_left
               ·simp only [Act.put,s1,s2,s3,i64_w,i32_w];rfl
               refine pure_ (i:=12) (N:=some 57) (v:=?_) (a':=?_) #[true,true,true,true,true,false,true,true,false,false,true,true,true,false,false,false,false,false,false] rfl rfl (any_of HT_.out (by kernel_rfl)) (fun _ _ _ h=>h) (Or.inl ⟨by rfl,?_⟩) ?_ ?_;rotate_left
               ·intro w';go_simp;with_reducible rfl
               rotate_left
               ·simp only [Act.put,s1,s2,s3,i64_w,i32_w];rfl
               refine pure_ (i:=13) (N:=some 58) (v:=?_) (a':=?_) #[true,true,true,true,true,false,true,true,false,false,true,true,true,true,false,false,false,false,false] rfl rfl (any_of HT_.out (by kernel_rfl)) (fun _ _ _ h=>h) (Or.inl ⟨by rfl,?_⟩) ?_ ?_;rotate_left
               ·intro w';go_simp;with_reducible rfl
               rotate_left
               ·simp only [Act.put,s1,s2,s3,i64_w,i32_w];rfl
               refine take_ (i:=5) (N:=some 50) (v:=?_) (a':=?_) #[true,true,true,true,true,true,true,true,false,false,true,true,true,true,false,false,false,false,false] rfl rfl (take_ofW HT_.out HW_.out (by kernel_rfl)) (fun _ _ _ h=>h) (Or.inl ⟨by rfl,?_⟩) hHeld ?_ ?_;rotate_left
               ·rintro w' ⟨s0,s1,s2,s3,s4,s5⟩;go_simp;with_reducible rfl
               rotate_left
               ·simp only [Act.put,s1,s2,s3,i64_w,i32_w];rfl
               refine take_ (i:=14) (N:=some 59) (v:=?_) (a':=?_) #[true,true,true,true,true,true,true,true,false,false,true,true,true,true,true,false,false,false,false] rfl rfl (take_ofW HT_.out HW_.out (by kernel_rfl)) (fun _ _ _ h=>h) (Or.inl ⟨by rfl,?_⟩) hHeld ?_ ?_;rotate_left
               ·rintro w' ⟨s0,s1,s2,s3,s4,s5⟩;go_simp;with_reducible rfl
               rotate_left
               ·simp only [Act.put,s1,s2,s3,i64_w,i32_w];rfl
               refine one_ (i:=8) (N:=some 53) #[true,true,true,true,true,true,true,true,true,false,true,true,true,true,true,false,false,false,false] rfl rfl (one_of HT_.out (by kernel_rfl)) (by decide) (fun K hK=>?_);refine goes_ Try.func70 (by kernel_rfl) rfl #[.int .i64 (wrap64 (Ae - ((rd_T66 l0 A2).f2)))] (by rfl) rfl rfl ml ?_
               with_reducible refine (spec_l01Pow2.calls k3 (wrap64 (Ae - ((rd_T66 l0 A2).f2))) Af _ A20.out).mono ?_
               rintro e w' ⟨rfl,⟨nd,rfl⟩⟩;refine ⟨_,rfl,?_⟩;refine hK.out _ _ ⟨(ct HB hw112_0 :),(ct HB hw112_1 :),(ct HB hw112_2 :),(ct HB hw114_0 :),(ct HB hw114_1 :),(ct HB hw114_2 :)⟩ (fun hHeld=>?_);clear hK K;refine norm_ (a':=?_) ?_ ?_;rotate_left
               ·show Act.put _ (some 53) _=_
                simp only [Act.put,s1,s2,s3,i64_w,i32_w];rfl
               refine pure_ (i:=9) (N:=some 54) (v:=?_) (a':=?_) (tf 15 4) rfl rfl (any_of HT_.out (by kernel_rfl)) (fun _ _ _ h=>h) (Or.inl ⟨by rfl,?_⟩) ?_ ?_;rotate_left
               ·intro w';go_simp;with_reducible rfl
               rotate_left
               ·simp only [Act.put,s1,s2,s3,i64_w,i32_w];rfl
               refine one_ (i:=15) (N:=some 60) (tf 16 3) rfl rfl (one_of HT_.out (by kernel_rfl)) (by decide) (fun K hK=>?_);refine goes_ Try.func70 (by kernel_rfl) rfl #[.int .i64 ((rd_T66 l0 A2).f2)] (by rfl) rfl rfl ml ?_
               with_reducible refine (spec_l01Pow2.calls k3 ((rd_T66 l0 A2).f2) Ad _ A22.out).mono ?_
               rintro e w' ⟨rfl,⟨nd,rfl⟩⟩;refine ⟨_,rfl,?_⟩;have p26:0≤(((rd_T66 l0 A2).f1):Int):=od;have q26:(((rd_T66 l0 A2).f1):Int) < ((Ac.length:Int):Int):=od;obtain ⟨go26,co26,eo26,Ap,gl26,cl26,HG26⟩:=Kd.R_form A8.out (by omega);(first|cases eo26|(injection eo26 with ea_ en_ ec_;(first|subst ea_|(injection ea_ with ea_;subst ea_));subst ec_;clear en_));have GB26:=Aside0.mk Ap;have GG26:=Aside0.mk HG26;clear Ap gl26 HG26;obtain ⟨hx26_0,hf26_0⟩:=Kd.R_celln 0 A8.out (((rd_T66 l0 A2).f1):Int) p26 q26;replace p26:=eq_true p26;replace q26:=eq_true q26;have HP28:=Kd.R_putn A8.out (((rd_T66 l0 A2).f1):Int) (Int.tmod (wrap64 (Int.tdiv A9 Af)) Ad);rw [← Ny116.out] at HP28;have HQ28:=Aside0.mk HP28;clear HP28;refine hK.out _ _ ⟨(ct HB hw112_0 :),(ct HB hw112_1 :),(ct HB hw112_2 :),(ct HB hw114_0 :),(ct HB hw114_1 :),(ct HB hw114_2 :)⟩ (fun hHeld=>?_);clear hK K;refine norm_ (a':=?_) ?_ ?_;rotate_left
               ·show Act.put _ (some 60) _=_
                simp only [Act.put,s1,s2,s3,i64_w,i32_w];rfl
               refine pure_ (i:=16) (N:=some 61) (v:=?_) (a':=?_) (tf 17 2) rfl rfl (any_of HT_.out (by kernel_rfl)) (fun _ _ _ h=>h) (Or.inl ⟨by rfl,?_⟩) ?_ ?_;rotate_left
               ·intro w';go_simp;with_reducible rfl
               rotate_left
               ·simp only [Act.put,s1,s2,s3,i64_w,i32_w];rfl
               refine pure_ (i:=17) (N:=some 62) (v:=?_) (a':=?_) (tf 18 1) rfl rfl (any_of HT_.out (by kernel_rfl)) (fun _ _ _ h=>h) (Or.inl ⟨by rfl,?_⟩) ?_ ?_;rotate_left
               ·intro w';go_simp;with_reducible rfl
               rotate_left
               ·simp only [Act.put,s1,s2,s3,i64_w,i32_w];rfl
               refine last_ (i:=18) (N:=none) (tf 19 0) rfl rfl (one_of HT_.out (by kernel_rfl)) (by decide) (fun K hK=>?_);refine skip_ (w1:=?_) (by rfl) rfl ?_ ?_;rotate_left
               ·go_simp;rfl
               refine hK.out _ _ ?_;clear hK K;refine done_ (done_of HT_.out (by kernel_rfl)) ?_
               try go_wp2
               go_roundg k3
               case measure=>have:=HJ3.out;have:=HK2.out;have:=HK3.out;omega
               case rel=>exact ⟨(y116),(wrap64 (Ae - ((rd_T66 l0 A2).f2))),(wrap64 (A2 + 1)),(by first|rfl|(simp;done)|(simp [*];done)),(by first|rfl|(simp;done)|(simp [*];done)),H',⟨by have:=HJ3.out;have:=HK2.out;have:=HK3.out;omega⟩,⟨by exact rfs (Kd.R_types Ab.out GG26.out (by decide))⟩,⟨ra HQ28⟩,⟨by (with_reducible repeat (first|refine blk_drewN ?_ _|refine blk_drew ?_|refine blk_alloc ?_ _));refine blk_far ?_ (by have h_:=Kd.R_ne A8.out A4.out (by decide);intro e_;exact h_ (by rw [e_];rfl)) _;(with_reducible repeat (first|refine blk_drewN ?_ _|refine blk_drew ?_|refine blk_alloc ?_ _));exact A4.out⟩,⟨by repeat (first|(with_reducible first|exact HB.out|apply below_alloc|apply pw_below_drewN|apply below_drew1|refine below_set ?_ GB26.out|refine below_set ?_ An.out)|exact HB.out)⟩⟩
              ·rw [if_neg c25] at H;exact absurd H (by simp)
             ·rw [if_neg c24] at H;exact absurd H (by simp)
          ·rw [if_neg c19] at H;exact absurd H (by simp)
         ·rw [if_neg c18] at H;have c18b0:decide (A2 < (l0.length:Int))=false:=decide_eq_false c18;clear c18;replace H:=ob H;obtain ⟨Aj,A290,H⟩:=H;replace H:(if Aa.length < 140737488355328 then (spec_TableOf.l0 k3 l0 l1 A5 (Aa ++ [(wrap64 (48 + Aj)) % 256]) Ac (wrap64 (A9 + 1))) else (none))=some (r1,r2,r3):=H;have A29:=Aside0.mk A290;clear A290
          by_cases c30:Aa.length < 140737488355328
          ·rw [if_pos c30] at H;have LMc30:=Aside0.mk c30;clear c30;obtain ⟨y118,hy118⟩:∃ y_:List Int,y_=(Aa ++ [(wrap64 (48 + Aj)) % 256]):=⟨_,rfl⟩
           replace H:(spec_TableOf.l0 k3 l0 l1 A5 y118 Ac (wrap64 (A9 + 1)))=some (r1,r2,r3):=by first|(rw [hy118];with_reducible exact H)|(have H2_:=(Option.bind_some _ _).symm.trans H;rw [hy118];with_reducible exact H2_)|(have H2_:=(Option.bind_some _ _).symm.trans H;with_reducible exact H2_)|with_reducible exact H|(rw [hy118];exact H)|exact H
           have Ny118:=Aside0.mk hy118;clear hy118;have H':=Aside0.mk H;clear H;obtain ⟨Ao31,co31,eo31⟩:=Kd.R_slice A8.out;subst eo31;go_wp2_with (first|((with_reducible refine gate_callee (f:=83) rfl ?_);refine goesL_ (some 69) rfl rfl Try.func83 (by kernel_rfl) rfl #[.slice A1 l1.length c1,.slice Ao31 Ac.length co31,.int .i64 (wrap64 ((l1.length:Int) - 1))] rfl ml ?_;(with_reducible refine (spec_l04At.calls k3 _ _ l1 _ _ Ac (wrap64 ((l1.length:Int) - 1)) Aj _ ?side1 ?side2 ?side3 ?side4 A29.out).mono ?_);(case side1=>exact cw (Kd.C_below HR1.out HB.out));(case side2=>exact HC1.out);(case side3=>exact cw (Kd.R_reads' A8.out).2.2);(case side4=>exact (Kd.R_reads' A8.out).2.1);rintro e w32 ⟨rfl,hb⟩;refine ⟨_,rfl,?_⟩;replace Ab:=Aside0.mk (Kd.R_below (ra Ab) hb);replace A8:=Aside0.mk (Kd.R_below (ra A8) hb);replace A4:=Aside0.mk (blk_below (g:=A7) (o := .cells #[.int .i64 0,.string (⟨#[]⟩:ByteArray)] 26 (0,0)) (dr A4) hb);replace HB:=Aside0.mk (below_step (tb HB) hb);(try clear hb);(try clear hb2);(try clear hk);(try clear hi))|((with_reducible refine gate_builtin (b := .append) (xs:=#[.tmp 63,.tmp 72]) rfl ?_);at_builtin;refine Kd.R_append (Kd.int .u8) (w0:=w) w.heap.size rfl (.tmp 63) (.tmp 72) 22 5 (.int .u8 0) 1 rfl Try.underlying22 info5 rfl (by decide) (by omega) u7 Aa ((wrap64 (48 + Aj)) % 256) [.int .u8 ((wrap64 (48 + Aj)) % 256)] (fun _=>True) (fun _=>False) rfl rfl ?aP (fun _ hk=>hk.elim) ?aF ?aO ?aB ?aS ?aL ?_;(case aP=>exact rfl);(case aB=>exact (tb HB));(case aF=>exact (fun _ _=>trivial));(case aO=>exact (ra Ab));(case aS=>exact (below_size (tb HB)));(case aL=>have:=LMc30.out;omega);intro v119 w33 ho hb hg hat;rw [← Ny118.out] at ho;replace A8:=Aside0.mk (Kd.R_over' (ra A8) (Kd.R_typed (ra Ab)) (by decide) hg);replace A4:=Aside0.mk (blk_grown (g:=A7) (o := .cells #[.int .i64 0,.string (⟨#[]⟩:ByteArray)] 26 (0,0)) (dr A4) hg (Kd.R_ne Ab.out A4.out (by decide)));replace HB:=Aside0.mk (hb);have Aq:=Aside0.mk (ho);clear Ab;clear ho hb hg hat));go_roundg k3
           case measure=>have:=HJ3.out;have:=HK2.out;have:=HK3.out;omega
           case rel=>exact ⟨(y118),(Ac),(wrap64 (A9 + 1)),(by first|rfl|(simp;done)|(simp [*];done)),H',⟨by have:=HJ3.out;have:=HK2.out;have:=HK3.out;omega⟩,⟨ra Aq⟩,⟨ra A8⟩,⟨dr A4⟩,⟨by exact tb HB⟩⟩
          ·rw [if_neg c30] at H;exact absurd H (by simp)
      ·rw [if_neg c17] at H;have c17b0:decide (A9 < Ah)=false:=decide_eq_false c17;clear c17;simp only [Option.some.injEq,Prod.mk.injEq] at H;obtain ⟨rfl,rfl,rfl⟩:=H;go_wp2_with (first|((with_reducible refine gate_callee (f:=70) rfl ?_);refine goesL_ (some 27) rfl rfl Try.func70 (by kernel_rfl) rfl #[.int .i64 A5] rfl ml ?_;(with_reducible refine (spec_l01Pow2.calls k2 A5 Ah _ A16.out).mono ?_);rintro e w' ⟨rfl,⟨nd,rfl⟩⟩;refine ⟨_,rfl,?_⟩;(try (rw [drewN_self wr];generalize hq_:World.drewN wr _=wr;have n0_:Aside0 (Kd.R (Kd.int .u8) 5 wr w.heap.size (fun _=>True) u7 Aa):=⟨by rw [← hq_];exact (ra Ab)⟩;have n1_:Aside0 (Kd.R (Kd.int .i64) 3 wr w.heap.size (fun _=>True) v108 Al):=⟨by rw [← hq_];exact (ra A8)⟩;have n2_:Aside0 (wr.heap[A7]? = some (.cells #[.int .i64 0,.string (⟨#[]⟩:ByteArray)] 26 (0,0))):=⟨by rw [← hq_];exact (dr A4)⟩;have n3_:Aside0 (Below w.heap.size w wr):=⟨by rw [← hq_];exact (tb HB)⟩;clear Ab A8 A4 HB hq_;have Ab:=n0_;have A8:=n1_;have A4:=n2_;have HB:=n3_;clear n0_ n1_ n2_ n3_));have hcv34:=own_string (P:=Try.prog) Try.underlying22 Try.underlying5 Try.underlying9 (Kd.own_of_R Ab.out);have hcz35__:=c2_ A4;have hfz35__:=f_ A4));refine bodyPost_ret (results_ct rfl _ _ A7 26 #[.int .i64 A5,.string (strOfNums Aa)] (0,0) _ rfl (by (with_reducible repeat (first|refine blk_drewN ?_ _|refine blk_drew ?_|refine blk_alloc ?_ _));refine blk_put (cs:=#[.int .i64 A5,.string (⟨#[]⟩:ByteArray)]) ?_ 1 _ rfl;(with_reducible repeat (first|refine blk_drewN ?_ _|refine blk_drew ?_|refine blk_alloc ?_ _));refine blk_put (cs:=#[.int .i64 0,.string (⟨#[]⟩:ByteArray)]) ?_ 0 _ rfl;(with_reducible repeat (first|refine blk_drewN ?_ _|refine blk_drew ?_|refine blk_alloc ?_ _));exact A4.out) Try.underlying26 rfl (by kernel_rfl)) rfl ?_;exact ⟨er,tb HB⟩
def laws_FnExactTableOf.j0:Nat→List (S97)→List (S101)→List (S66)→List (S99)→Bool→Option (Bool)
 | 0,_,_,_,_,_=>none
 | k + 1,x0,x1,x8,x9,x48=>if x48=true then (some false) else ((laws_toQuantS.f k x0).bind fun Ay=>((laws_eqQuantS.f k x8 Ay).bind fun Az=>(if Az=true then ((laws_toNodeS.f k x1).bind fun Ao=>((laws_eqNodeS.f k x9 Ao).bind fun Ap=>(if Ap=true then (some true) else (some false)))) else (some false))))
def laws_FnExactTableOf.f (k:Nat) (l0:List (S97)) (l1:List (S101)):Option (Bool):=(laws_szQuantS.f l0 1048576).bind fun An=>(if An < 0 then (some true) else ((laws_szNodeS.f l1 An).bind fun Au=>(if Au < 0 then (some true) else ((laws_toQuantS.f k l0).bind fun As=>((laws_toNodeS.f k l1).bind fun Aq=>((spec_TableOf.f k As Aq).bind fun bt109=>((laws_toQuantS.f k l0).bind fun A6=>((laws_toNodeS.f k l1).bind fun A2=>((impl_TableOf.f k A6 A2).bind fun bt119=>((laws_eqTable.f bt119.1 bt119.2.1 bt109.1 bt109.2.1).bind fun Ak=>(if Ak=true then (laws_FnExactTableOf.j0 k l0 l1 A6 A2 (bt119.2.2 != bt109.2.2)) else (laws_FnExactTableOf.j0 k l0 l1 A6 A2 true))))))))))))
set_option maxHeartbeats 8000000 in
set_option maxRecDepth 100000 in
theorem laws_FnExactTableOf.calls (k:Nat) (A0:Option Addr) (c0:Nat) (l0:List (S97)) (A1:Option Addr) (c1:Nat) (l1:List (S101)) (r:Bool) (w:World) (hr0:Kd.C k97 w A0 l0.length l0) (hc0:l0.length≤c0) (hr1:Kd.C k101 w A1 l1.length l1) (hc1:l1.length≤c1) (ht_:r=true) (h:laws_FnExactTableOf.f k l0 l1=some r) :
  Calls Try.prog 7 #[.slice A0 l0.length c0,.slice A1 l1.length c1] w fun e w'=>e = .returned (.bool r)∧Below w.heap.size w w':=by
 have hu26:=Try.underlying26;have HT:=Aside0.mk ht_;clear ht_;have HR0:=Aside0.mk hr0;have HC0:=Aside0.mk hc0;clear hr0 hc0;have HR1:=Aside0.mk hr1;have HC1:=Aside0.mk hc1;clear hr1 hc1;have HB:=Aside0.mk (Below.refl w.heap.size w);have H:((laws_szQuantS.f l0 1048576).bind fun An=>(if An < 0 then (some true) else ((laws_szNodeS.f l1 An).bind fun Au=>(if Au < 0 then (some true) else ((laws_toQuantS.f k l0).bind fun As=>((laws_toNodeS.f k l1).bind fun Aq=>((spec_TableOf.f k As Aq).bind fun bt109=>((laws_toQuantS.f k l0).bind fun A6=>((laws_toNodeS.f k l1).bind fun A2=>((impl_TableOf.f k A6 A2).bind fun bt119=>((laws_eqTable.f bt119.1 bt119.2.1 bt109.1 bt109.2.1).bind fun Ak=>(if Ak=true then (laws_FnExactTableOf.j0 k l0 l1 A6 A2 (bt119.2.2 != bt109.2.2)) else (laws_FnExactTableOf.j0 k l0 l1 A6 A2 true)))))))))))))=some r:=h;clear h;replace H:=ob H;obtain ⟨An,A30,H⟩:=H;replace H:(if An < 0 then (some true) else ((laws_szNodeS.f l1 An).bind fun Au=>(if Au < 0 then (some true) else ((laws_toQuantS.f k l0).bind fun As=>((laws_toNodeS.f k l1).bind fun Aq=>((spec_TableOf.f k As Aq).bind fun bt109=>((laws_toQuantS.f k l0).bind fun A6=>((laws_toNodeS.f k l1).bind fun A2=>((impl_TableOf.f k A6 A2).bind fun bt119=>((laws_eqTable.f bt119.1 bt119.2.1 bt109.1 bt109.2.1).bind fun Ak=>(if Ak=true then (laws_FnExactTableOf.j0 k l0 l1 A6 A2 (bt119.2.2 != bt109.2.2)) else (laws_FnExactTableOf.j0 k l0 l1 A6 A2 true))))))))))))=some r:=H;have A3:=Aside0.mk A30;clear A30
 by_cases c4:An < 0
 ·rw [if_pos c4] at H;have c4b0:decide (An < 0)=true:=decide_eq_true c4;clear c4;obtain rfl:=os H
  go_enter Try.func7,Try.ntmps7
  go_wp2_with (first|((with_reducible refine gate_callee (f:=32) rfl ?_);refine goesL_ (some 14) rfl rfl Try.func32 (by kernel_rfl) rfl #[.slice A0 l0.length c0,.int .i64 1048576] rfl ml ?_;(with_reducible refine (laws_szQuantS.calls _ _ l0 1048576 An _ ?side1 ?side2 A3.out).mono ?_);(case side1=>exact cw HR0.out);(case side2=>exact HC0.out);rintro e w' ⟨rfl,⟨nd,rfl⟩⟩;refine ⟨_,rfl,?_⟩));go_ret;exact ⟨er,tb HB⟩
 ·rw [if_neg c4] at H;have c4b0:decide (An < 0)=false:=decide_eq_false c4;clear c4;replace H:=ob H;obtain ⟨Au,A50,H⟩:=H;replace H:(if Au < 0 then (some true) else ((laws_toQuantS.f k l0).bind fun As=>((laws_toNodeS.f k l1).bind fun Aq=>((spec_TableOf.f k As Aq).bind fun bt109=>((laws_toQuantS.f k l0).bind fun A6=>((laws_toNodeS.f k l1).bind fun A2=>((impl_TableOf.f k A6 A2).bind fun bt119=>((laws_eqTable.f bt119.1 bt119.2.1 bt109.1 bt109.2.1).bind fun Ak=>(if Ak=true then (laws_FnExactTableOf.j0 k l0 l1 A6 A2 (bt119.2.2 != bt109.2.2)) else (laws_FnExactTableOf.j0 k l0 l1 A6 A2 true))))))))))=some r:=H;have A5:=Aside0.mk A50;clear A50
  by_cases c6:Au < 0
  ·rw [if_pos c6] at H;have c6b0:decide (Au < 0)=true:=decide_eq_true c6;clear c6;obtain rfl:=os H
   go_enter Try.func7,Try.ntmps7
   go_wp2_with (first|((with_reducible refine gate_callee (f:=32) rfl ?_);refine goesL_ (some 14) rfl rfl Try.func32 (by kernel_rfl) rfl #[.slice A0 l0.length c0,.int .i64 1048576] rfl ml ?_;(with_reducible refine (laws_szQuantS.calls _ _ l0 1048576 An _ ?side1 ?side2 A3.out).mono ?_);(case side1=>exact cw HR0.out);(case side2=>exact HC0.out);rintro e w' ⟨rfl,⟨nd,rfl⟩⟩;refine ⟨_,rfl,?_⟩)|((with_reducible refine gate_callee (f:=33) rfl ?_);refine goesL_ (some 19) rfl rfl Try.func33 (by kernel_rfl) rfl #[.slice A1 l1.length c1,.int .i64 An] rfl ml ?_;(with_reducible refine (laws_szNodeS.calls _ _ l1 An Au _ ?side1 ?side2 A5.out).mono ?_);(case side1=>exact cw HR1.out);(case side2=>exact HC1.out);rintro e w' ⟨rfl,⟨nd,rfl⟩⟩;refine ⟨_,rfl,?_⟩));go_ret;exact ⟨er,tb HB⟩
  ·rw [if_neg c6] at H;have c6b0:decide (Au < 0)=false:=decide_eq_false c6;clear c6;replace H:=ob H;obtain ⟨As,A70,H⟩:=H;replace H:((laws_toNodeS.f k l1).bind fun Aq=>((spec_TableOf.f k As Aq).bind fun bt109=>((laws_toQuantS.f k l0).bind fun A6=>((laws_toNodeS.f k l1).bind fun A2=>((impl_TableOf.f k A6 A2).bind fun bt119=>((laws_eqTable.f bt119.1 bt119.2.1 bt109.1 bt109.2.1).bind fun Ak=>(if Ak=true then (laws_FnExactTableOf.j0 k l0 l1 A6 A2 (bt119.2.2 != bt109.2.2)) else (laws_FnExactTableOf.j0 k l0 l1 A6 A2 true))))))))=some r:=H;have A7:=Aside0.mk A70;clear A70;replace H:=ob H;obtain ⟨Aq,A80,H⟩:=H;replace H:((spec_TableOf.f k As Aq).bind fun bt109=>((laws_toQuantS.f k l0).bind fun A6=>((laws_toNodeS.f k l1).bind fun A2=>((impl_TableOf.f k A6 A2).bind fun bt119=>((laws_eqTable.f bt119.1 bt119.2.1 bt109.1 bt109.2.1).bind fun Ak=>(if Ak=true then (laws_FnExactTableOf.j0 k l0 l1 A6 A2 (bt119.2.2 != bt109.2.2)) else (laws_FnExactTableOf.j0 k l0 l1 A6 A2 true)))))))=some r:=H;have A8:=Aside0.mk A80;clear A80;replace H:=ob H;obtain ⟨⟨Ag,Ah,B0⟩,A90,H⟩:=H;replace H:((laws_toQuantS.f k l0).bind fun A6=>((laws_toNodeS.f k l1).bind fun A2=>((impl_TableOf.f k A6 A2).bind fun bt119=>((laws_eqTable.f bt119.1 bt119.2.1 Ag Ah).bind fun Ak=>(if Ak=true then (laws_FnExactTableOf.j0 k l0 l1 A6 A2 (bt119.2.2 != B0)) else (laws_FnExactTableOf.j0 k l0 l1 A6 A2 true))))))=some r:=H;have A9:=Aside0.mk A90;clear A90;replace H:=ob H;obtain ⟨A6,A100,H⟩:=H;replace H:((laws_toNodeS.f k l1).bind fun A2=>((impl_TableOf.f k A6 A2).bind fun bt119=>((laws_eqTable.f bt119.1 bt119.2.1 Ag Ah).bind fun Ak=>(if Ak=true then (laws_FnExactTableOf.j0 k l0 l1 A6 A2 (bt119.2.2 != B0)) else (laws_FnExactTableOf.j0 k l0 l1 A6 A2 true)))))=some r:=H;have A10:=Aside0.mk A100;clear A100;replace H:=ob H;obtain ⟨A2,A110,H⟩:=H;replace H:((impl_TableOf.f k A6 A2).bind fun bt119=>((laws_eqTable.f bt119.1 bt119.2.1 Ag Ah).bind fun Ak=>(if Ak=true then (laws_FnExactTableOf.j0 k l0 l1 A6 A2 (bt119.2.2 != B0)) else (laws_FnExactTableOf.j0 k l0 l1 A6 A2 true))))=some r:=H;have A11:=Aside0.mk A110;clear A110;replace H:=ob H;obtain ⟨⟨Ai,Al,B2⟩,A120,H⟩:=H;replace H:((laws_eqTable.f Ai Al Ag Ah).bind fun Ak=>(if Ak=true then (laws_FnExactTableOf.j0 k l0 l1 A6 A2 (B2 != B0)) else (laws_FnExactTableOf.j0 k l0 l1 A6 A2 true)))=some r:=H;have A12:=Aside0.mk A120;clear A120;have HC13:=Aside0.mk H;clear H
   go_enter Try.func7,Try.ntmps7
   go_upto_region 12 with (first|((with_reducible refine gate_callee (f:=32) rfl ?_);refine goesL_ (some 14) rfl rfl Try.func32 (by kernel_rfl) rfl #[.slice A0 l0.length c0,.int .i64 1048576] rfl ml ?_;(with_reducible refine (laws_szQuantS.calls _ _ l0 1048576 An _ ?side1 ?side2 A3.out).mono ?_);(case side1=>exact cw HR0.out);(case side2=>exact HC0.out);rintro e w' ⟨rfl,⟨nd,rfl⟩⟩;refine ⟨_,rfl,?_⟩)|((with_reducible refine gate_callee (f:=33) rfl ?_);refine goesL_ (some 19) rfl rfl Try.func33 (by kernel_rfl) rfl #[.slice A1 l1.length c1,.int .i64 An] rfl ml ?_;(with_reducible refine (laws_szNodeS.calls _ _ l1 An Au _ ?side1 ?side2 A5.out).mono ?_);(case side1=>exact cw HR1.out);(case side2=>exact HC1.out);rintro e w' ⟨rfl,⟨nd,rfl⟩⟩;refine ⟨_,rfl,?_⟩)|((with_reducible refine gate_callee (f:=35) rfl ?_);refine goesL_ (some 24) rfl rfl Try.func35 (by kernel_rfl) rfl #[.slice A0 l0.length c0] rfl ml ?_;(with_reducible refine (laws_toQuantS.calls k _ _ l0 As _ ?side1 ?side2 A7.out).mono ?_);(case side1=>exact cw HR0.out);(case side2=>exact HC0.out);rintro e w14 ⟨v104,rfl,ho0,hb⟩;refine ⟨_,rfl,?_⟩;have Ad:=Aside0.mk (Kd.R_lower ho0 (below_size (tb HB)));replace HB:=Aside0.mk (below_step (tb HB) hb);(try clear hb);(try clear hb2);(try clear hk);(try clear hi);(try clear ho0))|((with_reducible refine gate_callee (f:=36) rfl ?_);refine goesL_ (some 26) rfl rfl Try.func36 (by kernel_rfl) rfl #[.slice A1 l1.length c1] rfl ml ?_;(with_reducible refine (laws_toNodeS.calls k _ _ l1 Aq _ ?side1 ?side2 A8.out).mono ?_);(case side1=>exact cw (Kd.C_below HR1.out HB.out));(case side2=>exact HC1.out);rintro e w15 ⟨v107,rfl,ho0,hb⟩;refine ⟨_,rfl,?_⟩;replace Ad:=Aside0.mk (Kd.R_below (ra Ad) hb);have Ae:=Aside0.mk (Kd.R_lower ho0 (below_size (tb HB)));replace HB:=Aside0.mk (below_step (tb HB) hb);(try clear hb);(try clear hb2);(try clear hk);(try clear hi);(try clear ho0);obtain ⟨Ao16,co16,eo16⟩:=Kd.R_slice Ad.out;subst eo16;obtain ⟨Ao17,co17,eo17⟩:=Kd.R_slice Ae.out;subst eo17)|((with_reducible refine gate_callee (f:=34) rfl ?_);refine goesL_ (some 27) rfl rfl Try.func34 (by kernel_rfl) rfl #[.slice Ao16 As.length co16,.slice Ao17 Aq.length co17] rfl ml ?_;(with_reducible refine (spec_TableOf.calls k _ _ As _ _ Aq Ag Ah B0 _ ?side1 ?side2 ?side3 ?side4 A9.out).mono ?_);(case side1=>exact cw (Kd.R_reads' Ad.out).2.2);(case side2=>exact (Kd.R_reads' Ad.out).2.1);(case side3=>exact cw (Kd.R_reads' Ae.out).2.2);(case side4=>exact (Kd.R_reads' Ae.out).2.1);rintro e w18 ⟨rfl,hb⟩;refine ⟨_,rfl,?_⟩;replace Ad:=Aside0.mk (Kd.R_below (ra Ad) hb);replace Ae:=Aside0.mk (Kd.R_below (ra Ae) hb);replace HB:=Aside0.mk (below_step (tb HB) hb);(try clear hb);(try clear hb2);(try clear hk);(try clear hi))|((with_reducible refine gate_dst (N:=6) rfl ?_);refine bx (N:=6) (cs:=#[.int .i64 0,.string (⟨#[]⟩:ByteArray)]) (t:=26) ?_;intro Ac hg w19 hbox hb;replace Ad:=Aside0.mk (Kd.R_below (ra Ad) hb);replace Ae:=Aside0.mk (Kd.R_below (ra Ae) hb);have A4:=Aside0.mk (hbox);have GW112:=Aside0.mk ((by rw [hg];exact (below_size (tb HB)):w.heap.size≤Ac));have GE112:=Aside0.mk ((by rw [hg];exact (below_size (tb HB)):w.heap.size≤Ac));replace HB:=Aside0.mk (below_step (tb HB) hb);clear hb hbox hg;have hcz20__:=c2_ A4;have hfz20__:=f_ A4)|((with_reducible refine gate_callee (f:=35) rfl ?_);refine goesL_ (some 31) rfl rfl Try.func35 (by kernel_rfl) rfl #[.slice A0 l0.length c0] rfl ml ?_;(with_reducible refine (laws_toQuantS.calls k _ _ l0 A6 _ ?side1 ?side2 A10.out).mono ?_);(case side1=>exact Kd.C_below HR0.out (tb HB));(case side2=>exact HC0.out);rintro e w21 ⟨v114,rfl,ho0,hb⟩;refine ⟨_,rfl,?_⟩;replace Ae:=Aside0.mk (Kd.R_below (by (with_reducible repeat (first|apply Kd.R_alloc|apply Kd.R_drewN|apply Kd.R_drew));exact (Kd.R_mono (Kd.R_far (p:=⟨Ac,1,none⟩) (Kd.R_far (p:=⟨Ac,0,none⟩) (Kd.R_types Ae.out A4.out (by decide)) (fun _ hk=>hk.2) (.int .i64 Ag)) (fun _ hk=>hk.2) (.string Ah)) (fun _ h_=>h_.1))) hb);have Aj:=Aside0.mk (Kd.R_lower (Kd.R_new' ho0 (Kd.R_lt (by (with_reducible repeat (first|apply Kd.R_alloc|apply Kd.R_drewN|apply Kd.R_drew));exact (Kd.R_mono (Kd.R_far (p:=⟨Ac,1,none⟩) (Kd.R_far (p:=⟨Ac,0,none⟩) (Kd.R_types Ad.out A4.out (by decide)) (fun _ hk=>hk.2) (.int .i64 Ag)) (fun _ hk=>hk.2) (.string Ah)) (fun _ h_=>h_.1))))) (below_size (tb HB)));replace Ad:=Aside0.mk (Kd.R_elder' (by (with_reducible repeat (first|apply Kd.R_alloc|apply Kd.R_drewN|apply Kd.R_drew));exact (Kd.R_mono (Kd.R_far (p:=⟨Ac,1,none⟩) (Kd.R_far (p:=⟨Ac,0,none⟩) (Kd.R_types Ad.out A4.out (by decide)) (fun _ hk=>hk.2) (.int .i64 Ag)) (fun _ hk=>hk.2) (.string Ah)) (fun _ h_=>h_.1))) (Kd.R_base ho0) hb);replace A4:=Aside0.mk (blk_below (g:=Ac) (o := .cells #[.int .i64 Ag,.string Ah] 26 (0,0)) (by (with_reducible repeat (first|refine blk_drewN ?_ _|refine blk_drew ?_|refine blk_alloc ?_ _));refine blk_put (cs:=#[.int .i64 Ag,.string (⟨#[]⟩:ByteArray)]) ?_ 1 _ rfl;(with_reducible repeat (first|refine blk_drewN ?_ _|refine blk_drew ?_|refine blk_alloc ?_ _));refine blk_put (cs:=#[.int .i64 0,.string (⟨#[]⟩:ByteArray)]) ?_ 0 _ rfl;(with_reducible repeat (first|refine blk_drewN ?_ _|refine blk_drew ?_|refine blk_alloc ?_ _));exact A4.out) hb);replace HB:=Aside0.mk (below_step (tb HB) hb);(try clear hb);(try clear hb2);(try clear hk);(try clear hi);(try clear ho0))|((with_reducible refine gate_callee (f:=36) rfl ?_);refine goesL_ (some 33) rfl rfl Try.func36 (by kernel_rfl) rfl #[.slice A1 l1.length c1] rfl ml ?_;(with_reducible refine (laws_toNodeS.calls k _ _ l1 A2 _ ?side1 ?side2 A11.out).mono ?_);(case side1=>exact cw (Kd.C_below HR1.out HB.out));(case side2=>exact HC1.out);rintro e w22 ⟨v117,rfl,ho0,hb⟩;refine ⟨_,rfl,?_⟩;replace Ad:=Aside0.mk (Kd.R_below (ra Ad) hb);replace Aj:=Aside0.mk (Kd.R_below (ra Aj) hb);have Am:=Aside0.mk (Kd.R_lower (Kd.R_new' ho0 (Kd.R_lt (ra Ae))) (below_size (tb HB)));replace Ae:=Aside0.mk (Kd.R_elder' (ra Ae) (Kd.R_base ho0) hb);replace A4:=Aside0.mk (blk_below (g:=Ac) (o := .cells #[.int .i64 Ag,.string Ah] 26 (0,0)) (dr A4) hb);replace HB:=Aside0.mk (below_step (tb HB) hb);(try clear hb);(try clear hb2);(try clear hk);(try clear hi);(try clear ho0);obtain ⟨B3,B4,eo23⟩:=Kd.R_slice Aj.out;subst eo23;obtain ⟨B5,B6,eo24⟩:=Kd.R_slice Am.out;subst eo24)|((with_reducible refine gate_callee (f:=37) rfl ?_);refine goesL_ (some 37) rfl rfl Try.func37 (by kernel_rfl) rfl #[.slice B3 A6.length B4,.slice B5 A2.length B6] rfl ml ?_;(with_reducible refine (impl_TableOf.calls k _ _ A6 _ _ A2 Ai Al B2 _ ?side1 ?side2 ?side3 ?side4 A12.out).mono ?_);(case side1=>exact cw (Kd.R_reads' Aj.out).2.2);(case side2=>exact (Kd.R_reads' Aj.out).2.1);(case side3=>exact cw (Kd.R_reads' Am.out).2.2);(case side4=>exact (Kd.R_reads' Am.out).2.1);rintro e w25 ⟨rfl,hb⟩;refine ⟨_,rfl,?_⟩;replace Ad:=Aside0.mk (Kd.R_below (ra Ad) hb);replace Ae:=Aside0.mk (Kd.R_below (ra Ae) hb);replace Aj:=Aside0.mk (Kd.R_below (ra Aj) hb);replace Am:=Aside0.mk (Kd.R_below (ra Am) hb);replace A4:=Aside0.mk (blk_below (g:=Ac) (o := .cells #[.int .i64 Ag,.string Ah] 26 (0,0)) (dr A4) hb);replace HB:=Aside0.mk (below_step (tb HB) hb);(try clear hb);(try clear hb2);(try clear hk);(try clear hi))|((with_reducible refine gate_dst (N:=10) rfl ?_);refine bx (N:=10) (cs:=#[.int .i64 0,.string (⟨#[]⟩:ByteArray)]) (t:=26) ?_;intro Ab hg w26 hbox hb;replace Ad:=Aside0.mk (Kd.R_below (ra Ad) hb);replace Ae:=Aside0.mk (Kd.R_below (ra Ae) hb);replace Aj:=Aside0.mk (Kd.R_below (ra Aj) hb);replace Am:=Aside0.mk (Kd.R_below (ra Am) hb);have Aa:=Aside0.mk (hbox);have GW122:=Aside0.mk ((by rw [hg];exact (below_size (tb HB)):w.heap.size≤Ab));have GE122:=Aside0.mk ((by rw [hg];exact (below_size (tb HB)):w.heap.size≤Ab));replace HB:=Aside0.mk (below_step (tb HB) hb);have Af:=Aside0.mk ((by rw [hg];exact Nat.ne_of_lt (blk_lt (g:=Ac) (o := .cells #[.int .i64 Ag,.string Ah] 26 (0,0)) (dr A4)):Ac≠Ab));have At:=Aside0.mk ((by rw [hg];exact Nat.ne_of_gt (blk_lt (g:=Ac) (o := .cells #[.int .i64 Ag,.string Ah] 26 (0,0)) (dr A4)):Ab≠Ac));replace A4:=Aside0.mk (blk_below (g:=Ac) (o := .cells #[.int .i64 Ag,.string Ah] 26 (0,0)) (dr A4) hb);clear hb hbox hg;have hnb27:=At.out;have hnc27:=Af.out;have hcz28__:=c2_ Aa;have hfz28__:=f_ Aa))
   (try simp only [Act.put,List.setIfInBounds_toArray,List.set_cons_zero,List.set_cons_succ])
   go_cut [48] (fun v48 wc=>∃ (kq:Nat) (Ax:Bool),v48 = .bool Ax∧Aside0 (laws_FnExactTableOf.j0 kq l0 l1 A6 A2 Ax=some r)∧Aside0 (kq≤k)∧Aside0 (Kd.R k66 66 wc w.heap.size (fun _=>True) (.slice B3 A6.length B4) A6)∧Aside0 (Kd.R k99 99 wc w.heap.size (fun _=>True) (.slice B5 A2.length B6) A2)∧Aside0 (wc.heap[Ac]? = some (.cells #[.int .i64 Ag,.string Ah] 26 (0,0)))∧Aside0 (wc.heap[Ab]? = some (.cells #[.int .i64 Ai,.string Al] 26 (0,0)))∧Aside0 (Below w.heap.size w wc))
   case first =>
    have H:=HC13.out;clear HC13;replace H:=ob H;obtain ⟨Ak,A290,H⟩:=H;replace H:(if Ak=true then (laws_FnExactTableOf.j0 k l0 l1 A6 A2 (B2 != B0)) else (laws_FnExactTableOf.j0 k l0 l1 A6 A2 true))=some r:=H;have A29:=Aside0.mk A290;clear A290
    by_cases c30:Ak=true
    ·subst c30
     have H1:(laws_FnExactTableOf.j0 k l0 l1 A6 A2 (B2 != B0))=some r:=by rw [if_pos rfl] at H;exact H
     clear H;have H:=H1;clear H1;have H':=Aside0.mk H;clear H;have hnb31:=At.out;have hnc31:=Af.out;have hcz32__:=c2_ Aa;have hfz32__:=f_ Aa;have hcz33__:=c2_ A4;have hfz33__:=f_ A4;go_wp2_with (first|((with_reducible refine gate_callee (f:=38) rfl ?_);refine goesL_ (some 42) rfl rfl Try.func38 (by kernel_rfl) rfl #[.agg #[.int .i64 Ai,.string Al],.agg #[.int .i64 Ag,.string Ah]] rfl ml ?_;(with_reducible refine (laws_eqTable.calls Ai Al Ag Ah true _ A29.out).mono ?_);rintro e w34 ⟨rfl,hb⟩;refine ⟨_,rfl,?_⟩;replace Ad:=Aside0.mk (Kd.R_below (by (with_reducible repeat (first|apply Kd.R_alloc|apply Kd.R_drewN|apply Kd.R_drew));exact (Kd.R_mono (Kd.R_far (p:=⟨Ab,1,none⟩) (Kd.R_far (p:=⟨Ab,0,none⟩) (Kd.R_types Ad.out Aa.out (by decide)) (fun _ hk=>hk.2) (.int .i64 Ai)) (fun _ hk=>hk.2) (.string Al)) (fun _ h_=>h_.1))) hb);replace Ae:=Aside0.mk (Kd.R_below (by (with_reducible repeat (first|apply Kd.R_alloc|apply Kd.R_drewN|apply Kd.R_drew));exact (Kd.R_mono (Kd.R_far (p:=⟨Ab,1,none⟩) (Kd.R_far (p:=⟨Ab,0,none⟩) (Kd.R_types Ae.out Aa.out (by decide)) (fun _ hk=>hk.2) (.int .i64 Ai)) (fun _ hk=>hk.2) (.string Al)) (fun _ h_=>h_.1))) hb);replace Aj:=Aside0.mk (Kd.R_below (by (with_reducible repeat (first|apply Kd.R_alloc|apply Kd.R_drewN|apply Kd.R_drew));exact (Kd.R_mono (Kd.R_far (p:=⟨Ab,1,none⟩) (Kd.R_far (p:=⟨Ab,0,none⟩) (Kd.R_types Aj.out Aa.out (by decide)) (fun _ hk=>hk.2) (.int .i64 Ai)) (fun _ hk=>hk.2) (.string Al)) (fun _ h_=>h_.1))) hb);replace Am:=Aside0.mk (Kd.R_below (by (with_reducible repeat (first|apply Kd.R_alloc|apply Kd.R_drewN|apply Kd.R_drew));exact (Kd.R_mono (Kd.R_far (p:=⟨Ab,1,none⟩) (Kd.R_far (p:=⟨Ab,0,none⟩) (Kd.R_types Am.out Aa.out (by decide)) (fun _ hk=>hk.2) (.int .i64 Ai)) (fun _ hk=>hk.2) (.string Al)) (fun _ h_=>h_.1))) hb);replace A4:=Aside0.mk (blk_below (g:=Ac) (o := .cells #[.int .i64 Ag,.string Ah] 26 (0,0)) (by (with_reducible repeat (first|refine blk_drewN ?_ _|refine blk_drew ?_|refine blk_alloc ?_ _));refine blk_far ?_ Af.out _;(with_reducible repeat (first|refine blk_drewN ?_ _|refine blk_drew ?_|refine blk_alloc ?_ _));refine blk_far ?_ Af.out _;(with_reducible repeat (first|refine blk_drewN ?_ _|refine blk_drew ?_|refine blk_alloc ?_ _));exact A4.out) hb);replace Aa:=Aside0.mk (blk_below (g:=Ab) (o := .cells #[.int .i64 Ai,.string Al] 26 (0,0)) (by (with_reducible repeat (first|refine blk_drewN ?_ _|refine blk_drew ?_|refine blk_alloc ?_ _));refine blk_put (cs:=#[.int .i64 Ai,.string (⟨#[]⟩:ByteArray)]) ?_ 1 _ rfl;(with_reducible repeat (first|refine blk_drewN ?_ _|refine blk_drew ?_|refine blk_alloc ?_ _));refine blk_put (cs:=#[.int .i64 0,.string (⟨#[]⟩:ByteArray)]) ?_ 0 _ rfl;(with_reducible repeat (first|refine blk_drewN ?_ _|refine blk_drew ?_|refine blk_alloc ?_ _));exact Aa.out) hb);replace HB:=Aside0.mk (below_step (tb HB) hb);(try clear hb);(try clear hb2);(try clear hk);(try clear hi)));go_meet
     case rel=>exact ⟨_,((B2 != B0)),(by first|rfl|(simp;done)|(simp [*];done)),H',⟨by first|omega|exact Nat.le_refl _⟩,⟨by (with_reducible repeat (first|apply Kd.R_alloc|apply Kd.R_drewN|apply Kd.R_drew));exact Kd.R_mono Aj.out (fun _ hk=>trivial)⟩,⟨by (with_reducible repeat (first|apply Kd.R_alloc|apply Kd.R_drewN|apply Kd.R_drew));exact Kd.R_mono Am.out (fun _ hk=>trivial)⟩,⟨dr A4⟩,⟨dr Aa⟩,⟨by exact tb HB⟩⟩
    ·replace c30:=Bool.eq_false_iff.mpr c30;subst c30
     have H1:(laws_FnExactTableOf.j0 k l0 l1 A6 A2 true)=some r:=by rw [if_neg (show ¬ (false=true) by decide)] at H;exact H
     clear H;have H:=H1;clear H1;have H':=Aside0.mk H;clear H;have hnb35:=At.out;have hnc35:=Af.out;have hcz36__:=c2_ Aa;have hfz36__:=f_ Aa;have hcz37__:=c2_ A4;have hfz37__:=f_ A4;go_wp2_with (first|((with_reducible refine gate_callee (f:=38) rfl ?_);refine goesL_ (some 42) rfl rfl Try.func38 (by kernel_rfl) rfl #[.agg #[.int .i64 Ai,.string Al],.agg #[.int .i64 Ag,.string Ah]] rfl ml ?_;(with_reducible refine (laws_eqTable.calls Ai Al Ag Ah false _ A29.out).mono ?_);rintro e w38 ⟨rfl,hb⟩;refine ⟨_,rfl,?_⟩;replace Ad:=Aside0.mk (Kd.R_below (by (with_reducible repeat (first|apply Kd.R_alloc|apply Kd.R_drewN|apply Kd.R_drew));exact (Kd.R_mono (Kd.R_far (p:=⟨Ab,1,none⟩) (Kd.R_far (p:=⟨Ab,0,none⟩) (Kd.R_types Ad.out Aa.out (by decide)) (fun _ hk=>hk.2) (.int .i64 Ai)) (fun _ hk=>hk.2) (.string Al)) (fun _ h_=>h_.1))) hb);replace Ae:=Aside0.mk (Kd.R_below (by (with_reducible repeat (first|apply Kd.R_alloc|apply Kd.R_drewN|apply Kd.R_drew));exact (Kd.R_mono (Kd.R_far (p:=⟨Ab,1,none⟩) (Kd.R_far (p:=⟨Ab,0,none⟩) (Kd.R_types Ae.out Aa.out (by decide)) (fun _ hk=>hk.2) (.int .i64 Ai)) (fun _ hk=>hk.2) (.string Al)) (fun _ h_=>h_.1))) hb);replace Aj:=Aside0.mk (Kd.R_below (by (with_reducible repeat (first|apply Kd.R_alloc|apply Kd.R_drewN|apply Kd.R_drew));exact (Kd.R_mono (Kd.R_far (p:=⟨Ab,1,none⟩) (Kd.R_far (p:=⟨Ab,0,none⟩) (Kd.R_types Aj.out Aa.out (by decide)) (fun _ hk=>hk.2) (.int .i64 Ai)) (fun _ hk=>hk.2) (.string Al)) (fun _ h_=>h_.1))) hb);replace Am:=Aside0.mk (Kd.R_below (by (with_reducible repeat (first|apply Kd.R_alloc|apply Kd.R_drewN|apply Kd.R_drew));exact (Kd.R_mono (Kd.R_far (p:=⟨Ab,1,none⟩) (Kd.R_far (p:=⟨Ab,0,none⟩) (Kd.R_types Am.out Aa.out (by decide)) (fun _ hk=>hk.2) (.int .i64 Ai)) (fun _ hk=>hk.2) (.string Al)) (fun _ h_=>h_.1))) hb);replace A4:=Aside0.mk (blk_below (g:=Ac) (o := .cells #[.int .i64 Ag,.string Ah] 26 (0,0)) (by (with_reducible repeat (first|refine blk_drewN ?_ _|refine blk_drew ?_|refine blk_alloc ?_ _));refine blk_far ?_ Af.out _;(with_reducible repeat (first|refine blk_drewN ?_ _|refine blk_drew ?_|refine blk_alloc ?_ _));refine blk_far ?_ Af.out _;(with_reducible repeat (first|refine blk_drewN ?_ _|refine blk_drew ?_|refine blk_alloc ?_ _));exact A4.out) hb);replace Aa:=Aside0.mk (blk_below (g:=Ab) (o := .cells #[.int .i64 Ai,.string Al] 26 (0,0)) (by (with_reducible repeat (first|refine blk_drewN ?_ _|refine blk_drew ?_|refine blk_alloc ?_ _));refine blk_put (cs:=#[.int .i64 Ai,.string (⟨#[]⟩:ByteArray)]) ?_ 1 _ rfl;(with_reducible repeat (first|refine blk_drewN ?_ _|refine blk_drew ?_|refine blk_alloc ?_ _));refine blk_put (cs:=#[.int .i64 0,.string (⟨#[]⟩:ByteArray)]) ?_ 0 _ rfl;(with_reducible repeat (first|refine blk_drewN ?_ _|refine blk_drew ?_|refine blk_alloc ?_ _));exact Aa.out) hb);replace HB:=Aside0.mk (below_step (tb HB) hb);(try clear hb);(try clear hb2);(try clear hk);(try clear hi)));go_meet
     case rel=>exact ⟨_,(true),(by first|rfl|(simp;done)|(simp [*];done)),H',⟨by first|omega|exact Nat.le_refl _⟩,⟨by (with_reducible repeat (first|apply Kd.R_alloc|apply Kd.R_drewN|apply Kd.R_drew));exact Kd.R_mono Aj.out (fun _ hk=>trivial)⟩,⟨by (with_reducible repeat (first|apply Kd.R_alloc|apply Kd.R_drewN|apply Kd.R_drew));exact Kd.R_mono Am.out (fun _ hk=>trivial)⟩,⟨dr A4⟩,⟨dr Aa⟩,⟨by exact tb HB⟩⟩
   case rest =>
    clear HC13;(try clear c1);(try clear c2);(try clear p2);(try clear c3);(try clear c4);(try clear c4b0);(try clear c6);(try clear c6b0);(try clear c7);(try clear c27);(try clear c30);(try clear c31);(try clear c32);(try clear c33);(try clear c34);(try clear c35);(try clear c36);(try clear c37);(try clear c38);(try clear hcz20__);(try clear hcz28__);(try clear hcz32__);(try clear hcz33__);(try clear hcz36__);(try clear hcz37__);(try clear hfz20__);(try clear hfz28__);(try clear hfz32__);(try clear hfz33__);(try clear hfz36__);(try clear hfz37__);obtain ⟨kq,Ax,rfl,HA,HJ12,Av,Aw,A4,Aa,HB⟩:=hcut
    cases kq with
    | zero=>exact absurd HA.out (by simp [laws_FnExactTableOf.j0])
    | succ kj12 =>
     have H:=HA.out;clear HA;simp only [laws_FnExactTableOf.j0] at H
     by_cases c39:Ax=true
     ·subst c39
      have H1:(some false)=some r:=by rw [if_pos rfl] at H;exact H
      clear H;have H:=H1;clear H1;exact absurd ((Option.some.inj H).trans HT.out) (by decide)
     ·replace c39:=Bool.eq_false_iff.mpr c39;subst c39
      have H1:((laws_toQuantS.f kj12 l0).bind fun Ay=>((laws_eqQuantS.f kj12 A6 Ay).bind fun Az=>(if Az=true then ((laws_toNodeS.f kj12 l1).bind fun Ao=>((laws_eqNodeS.f kj12 A2 Ao).bind fun Ap=>(if Ap=true then (some true) else (some false)))) else (some false))))=some r:=by rw [if_neg (show ¬ (false=true) by decide)] at H;exact H
      clear H;have H:=H1;clear H1;replace H:=ob H;obtain ⟨Ay,A400,H⟩:=H;replace H:((laws_eqQuantS.f kj12 A6 Ay).bind fun Az=>(if Az=true then ((laws_toNodeS.f kj12 l1).bind fun Ao=>((laws_eqNodeS.f kj12 A2 Ao).bind fun Ap=>(if Ap=true then (some true) else (some false)))) else (some false)))=some r:=H;have A40:=Aside0.mk A400;clear A400;replace H:=ob H;obtain ⟨Az,A410,H⟩:=H;replace H:(if Az=true then ((laws_toNodeS.f kj12 l1).bind fun Ao=>((laws_eqNodeS.f kj12 A2 Ao).bind fun Ap=>(if Ap=true then (some true) else (some false)))) else (some false))=some r:=H;have A41:=Aside0.mk A410;clear A410
      by_cases c42:Az=true
      ·subst c42
       have H1:((laws_toNodeS.f kj12 l1).bind fun Ao=>((laws_eqNodeS.f kj12 A2 Ao).bind fun Ap=>(if Ap=true then (some true) else (some false))))=some r:=by rw [if_pos rfl] at H;exact H
       clear H;have H:=H1;clear H1;replace H:=ob H;obtain ⟨Ao,A430,H⟩:=H;replace H:((laws_eqNodeS.f kj12 A2 Ao).bind fun Ap=>(if Ap=true then (some true) else (some false)))=some r:=H;have A43:=Aside0.mk A430;clear A430;replace H:=ob H;obtain ⟨Ap,A440,H⟩:=H;replace H:(if Ap=true then (some true) else (some false))=some r:=H;have A44:=Aside0.mk A440;clear A440
       by_cases c45:Ap=true
       ·subst c45
        have H1:(some true)=some r:=by rw [if_pos rfl] at H;exact H
        clear H;have H:=H1;clear H1;obtain rfl:=os H
        go_wp2_with (first|((with_reducible refine gate_callee (f:=35) rfl ?_);refine goesL_ (some 51) rfl rfl Try.func35 (by kernel_rfl) rfl #[.slice A0 l0.length c0] rfl ml ?_;(with_reducible refine (laws_toQuantS.calls kj12 _ _ l0 Ay _ ?side1 ?side2 A40.out).mono ?_);(case side1=>exact cw (Kd.C_below HR0.out HB.out));(case side2=>exact HC0.out);rintro e w46 ⟨v125,rfl,ho0,hb⟩;refine ⟨_,rfl,?_⟩;replace Aw:=Aside0.mk (Kd.R_below (ra Aw) hb);have Ar:=Aside0.mk (Kd.R_lower (Kd.R_new' ho0 (Kd.R_lt (ra Av))) (below_size (tb HB)));replace Av:=Aside0.mk (Kd.R_elder' (ra Av) (Kd.R_base ho0) hb);replace A4:=Aside0.mk (blk_below (g:=Ac) (o := .cells #[.int .i64 Ag,.string Ah] 26 (0,0)) (dr A4) hb);replace Aa:=Aside0.mk (blk_below (g:=Ab) (o := .cells #[.int .i64 Ai,.string Al] 26 (0,0)) (dr Aa) hb);replace HB:=Aside0.mk (below_step (tb HB) hb);(try clear hb);(try clear hb2);(try clear hk);(try clear hi);(try clear ho0);obtain ⟨Ao47,co47,eo47⟩:=Kd.R_slice Ar.out;subst eo47)|((with_reducible refine gate_callee (f:=39) rfl ?_);refine goesL_ (some 52) rfl rfl Try.func39 (by kernel_rfl) rfl #[.slice B3 A6.length B4,.slice Ao47 Ay.length co47] rfl ml ?_;(with_reducible refine (laws_eqQuantS.calls kj12 _ _ A6 _ _ Ay true _ ?side1 ?side2 ?side3 ?side4 A41.out).mono ?_);(case side1=>exact cw (Kd.R_reads' Av.out).2.2);(case side2=>exact (Kd.R_reads' Av.out).2.1);(case side3=>exact cw (Kd.R_reads' Ar.out).2.2);(case side4=>exact (Kd.R_reads' Ar.out).2.1);rintro e w48 ⟨rfl,hb⟩;refine ⟨_,rfl,?_⟩;replace Av:=Aside0.mk (Kd.R_below (ra Av) hb);replace Aw:=Aside0.mk (Kd.R_below (ra Aw) hb);replace Ar:=Aside0.mk (Kd.R_below (ra Ar) hb);replace A4:=Aside0.mk (blk_below (g:=Ac) (o := .cells #[.int .i64 Ag,.string Ah] 26 (0,0)) (dr A4) hb);replace Aa:=Aside0.mk (blk_below (g:=Ab) (o := .cells #[.int .i64 Ai,.string Al] 26 (0,0)) (dr Aa) hb);replace HB:=Aside0.mk (below_step (tb HB) hb);(try clear hb);(try clear hb2);(try clear hk);(try clear hi))|((with_reducible refine gate_callee (f:=36) rfl ?_);refine goesL_ (some 56) rfl rfl Try.func36 (by kernel_rfl) rfl #[.slice A1 l1.length c1] rfl ml ?_;(with_reducible refine (laws_toNodeS.calls kj12 _ _ l1 Ao _ ?side1 ?side2 A43.out).mono ?_);(case side1=>exact cw (Kd.C_below HR1.out HB.out));(case side2=>exact HC1.out);rintro e w49 ⟨v129,rfl,ho0,hb⟩;refine ⟨_,rfl,?_⟩;replace Av:=Aside0.mk (Kd.R_below (ra Av) hb);replace Ar:=Aside0.mk (Kd.R_below (ra Ar) hb);have B1:=Aside0.mk (Kd.R_lower (Kd.R_new' ho0 (Kd.R_lt (ra Aw))) (below_size (tb HB)));replace Aw:=Aside0.mk (Kd.R_elder' (ra Aw) (Kd.R_base ho0) hb);replace A4:=Aside0.mk (blk_below (g:=Ac) (o := .cells #[.int .i64 Ag,.string Ah] 26 (0,0)) (dr A4) hb);replace Aa:=Aside0.mk (blk_below (g:=Ab) (o := .cells #[.int .i64 Ai,.string Al] 26 (0,0)) (dr Aa) hb);replace HB:=Aside0.mk (below_step (tb HB) hb);(try clear hb);(try clear hb2);(try clear hk);(try clear hi);(try clear ho0);obtain ⟨Ao50,co50,eo50⟩:=Kd.R_slice B1.out;subst eo50)|((with_reducible refine gate_callee (f:=40) rfl ?_);refine goesL_ (some 57) rfl rfl Try.func40 (by kernel_rfl) rfl #[.slice B5 A2.length B6,.slice Ao50 Ao.length co50] rfl ml ?_;(with_reducible refine (laws_eqNodeS.calls kj12 _ _ A2 _ _ Ao true _ ?side1 ?side2 ?side3 ?side4 A44.out).mono ?_);(case side1=>exact cw (Kd.R_reads' Aw.out).2.2);(case side2=>exact (Kd.R_reads' Aw.out).2.1);(case side3=>exact cw (Kd.R_reads' B1.out).2.2);(case side4=>exact (Kd.R_reads' B1.out).2.1);rintro e w51 ⟨rfl,hb⟩;refine ⟨_,rfl,?_⟩;replace Av:=Aside0.mk (Kd.R_below (ra Av) hb);replace Aw:=Aside0.mk (Kd.R_below (ra Aw) hb);replace Ar:=Aside0.mk (Kd.R_below (ra Ar) hb);replace B1:=Aside0.mk (Kd.R_below (ra B1) hb);replace A4:=Aside0.mk (blk_below (g:=Ac) (o := .cells #[.int .i64 Ag,.string Ah] 26 (0,0)) (dr A4) hb);replace Aa:=Aside0.mk (blk_below (g:=Ab) (o := .cells #[.int .i64 Ai,.string Al] 26 (0,0)) (dr Aa) hb);replace HB:=Aside0.mk (below_step (tb HB) hb);(try clear hb);(try clear hb2);(try clear hk);(try clear hi)))
        go_ret;exact ⟨er,tb HB⟩
       ·replace c45:=Bool.eq_false_iff.mpr c45;subst c45
        have H1:(some false)=some r:=by rw [if_neg (show ¬ (false=true) by decide)] at H;exact H
        clear H;have H:=H1;clear H1;exact absurd ((Option.some.inj H).trans HT.out) (by decide)
      ·replace c42:=Bool.eq_false_iff.mpr c42;subst c42
       have H1:(some false)=some r:=by rw [if_neg (show ¬ (false=true) by decide)] at H;exact H
       clear H;have H:=H1;clear H1;exact absurd ((Option.some.inj H).trans HT.out) (by decide)
end Go.Proofs.Ythipjoioicmcnaa.G
set_option linter.unusedSimpArgs false
set_option linter.unusedVariables false
namespace Go.Proofs.Ythipjoioicmcnaa.Pure
open Go.RowKit Go.Proofs.YthipjoioicmcnaaW.PrintWords Go.Proofs.YthipjoioicmcnaaW.PrintLast Go.Proofs.YthipjoioicmcnaaW.PrintMore
theorem rounds {R:Type} (L:Nat→Nat→Option R) (n:Nat) (r:R) (step:∀ k i,i < n→L (k + 1) i=L k (i + 1)) (stop:∀ k,L (k + 1) n=some r):∀ k,n < k→L k 0=some r:=by
 have h:∀ d i k,i + d=n→d < k→L k i=some r:=by
  intro d
  induction d with
  | zero =>
   intro i k hi hk
   obtain ⟨k,rfl⟩:∃ m,k=m + 1:=⟨k - 1,by omega⟩
   obtain rfl:i=n:=by omega
   exact stop k
  | succ d ih =>
   intro i k hi hk
   obtain ⟨k,rfl⟩:∃ m,k=m + 1:=⟨k - 1,by omega⟩
   rw [step k i (by omega)]
   exact ih (i + 1) k (by omega) (by omega)
 exact fun k hk=>h n 0 k (by omega) hk
theorem w64 {n:Int} (h0 : -9223372036854775808≤n) (h1:n≤9223372036854775807):wrap64 n=n:=by
 unfold wrap64
 omega
theorem w64s (i:Nat) (h:i < 4611686018427387904):wrap64 ((i:Int) + 1)=((i + 1:Nat):Int):=by
 rw [w64 (by omega) (by omega)]
 omega
theorem wfi {a:Int} (h:(Lit.int .i64 a).wf=true) : -9223372036854775808≤a∧a≤9223372036854775807:=by
 have hmin:IntKind.i64.min = -9223372036854775808:=rfl
 have hmax:IntKind.i64.max=9223372036854775807:=rfl
 simp only [Lit.wf,Bool.and_eq_true,decide_eq_true_eq] at h
 omega
theorem u64_of {a:Int} (h0:0≤a) (h1:a≤18446744073709551615):IntKind.u64.wrap a=a:=by
 have h:IntKind.u64.wrap a=a % 18446744073709551616:=by
  simp [IntKind.wrap,IntKind.bits,IntKind.signed]
 rw [h]
 omega
theorem rd_nat (xs:List Int) (i:Nat):rd xs (i:Int)=xs.getD i 0:=by unfold rd;simp
theorem getD_lt {α:Type} (xs:List α) (i:Nat) (d:α) (h:i < xs.length):xs.getD i d=xs[i]:=by
 rw [List.getD_eq_getElem?_getD,List.getElem?_eq_getElem h]
 rfl
end Go.Proofs.Ythipjoioicmcnaa.Pure
set_option linter.unusedSimpArgs false
set_option linter.unusedVariables false
namespace Go.Proofs.Ythipjoioicmcnaa.Pure
open Go.RowKit Go.Proofs.Ythipjoioicmcnaa.G Go.Proofs.YthipjoioicmcnaaW.PrintWords Go.Proofs.YthipjoioicmcnaaW.PrintLast Go.Proofs.YthipjoioicmcnaaW.PrintMore
theorem pow62 {n:Nat} (hn:n≤61):(2:Int) ^ n≤2305843009213693952:=by
 have h:2 ^ n≤2 ^ 61:=Nat.pow_le_pow_right (by decide) hn
 have h2:((2 ^ n:Nat):Int)≤((2 ^ 61:Nat):Int):=by exact_mod_cast h
 have h3:((2 ^ n:Nat):Int)=(2:Int) ^ n:=by norm_cast
 omega
theorem pow_pos_ (n:Nat):(1:Int)≤2 ^ n:=by
 have h:1≤2 ^ n:=Nat.one_le_two_pow
 have h2:((1:Nat):Int)≤((2 ^ n:Nat):Int):=by exact_mod_cast h
 have h3:((2 ^ n:Nat):Int)=(2:Int) ^ n:=by norm_cast
 omega
theorem pow2_eq (n:Nat) (hn:n≤60):∀ k,n < k→spec_l01Pow2.f k (n:Int)=some ((2:Int) ^ n):=by
 intro k hk
 unfold spec_l01Pow2.f
 refine rounds (fun k i=>spec_l01Pow2.l0 k (n:Int) ((2:Int) ^ i) (i:Int)) n _ ?_ ?_ k hk
 ·intro k i hi
  simp only [spec_l01Pow2.l0]
  have h1:=pow62 (n:=i + 1) (by omega)
  have h2:=pow_pos_ i
  rw [if_pos (by omega),w64s i (by omega),show (2:Int) * 2 ^ i=2 ^ (i + 1) from by rw [Int.pow_succ];omega,w64 (by have:=pow_pos_ (i + 1);omega) (by omega)]
 ·intro k
  simp only [spec_l01Pow2.l0]
  rw [if_neg (by omega)]
theorem shl_eq (n:Nat) (hn:n≤60):shl .i64 1 (n:Int)=(2:Int) ^ n:=by
 unfold shl
 rw [Int.toNat_natCast,show min n IntKind.i64.bits=n from by simp [IntKind.bits];omega,Int.one_mul,IntKind.wrap_i64]
 have h1:=pow62 (n:=n) (by omega)
 have h2:=pow_pos_ n
 omega
theorem wraps_i64 (n:Int) (h₀:0≤n) (h₁:n < 2 ^ 62):IntKind.i64.wrap n=n:=by rw [IntKind.wrap_i64];omega
theorem and_i64 (a b:Nat) (ha:a < 2 ^ 62) (hb:b < 2 ^ 62):Go.bits .and .i64 (a:Int) (b:Int)=((a &&& b:Nat):Int):=(bits_nat .i64 62 (by decide) wraps_i64 a b ha hb).1
theorem or_i64 (a b:Nat) (ha:a < 2 ^ 62) (hb:b < 2 ^ 62):Go.bits .or .i64 (a:Int) (b:Int)=((a ||| b:Nat):Int):=(bits_nat .i64 62 (by decide) wraps_i64 a b ha hb).2
theorem pow_cast (j:Nat):(2:Int) ^ j=((2 ^ j:Nat):Int):=by norm_cast
end Go.Proofs.Ythipjoioicmcnaa.Pure
set_option linter.unusedSimpArgs false
set_option linter.unusedVariables false
namespace Go.Proofs.Ythipjoioicmcnaa.Pure
open Go.RowKit Go.Proofs.YthipjoioicmcnaaW.PrintWords Go.Proofs.YthipjoioicmcnaaW.PrintLast Go.Proofs.YthipjoioicmcnaaW.PrintMore
theorem ev_some {α:Type} (r:α):Ev (fun _=>some r) r:=⟨0,fun _ _=>rfl⟩
theorem ev_ge {α:Type} {g:Nat→Option α} {r:α} (n:Nat) (h:∀ k,n < k→g k=some r):Ev g r:=⟨n + 1,fun k hk=>h k (by omega)⟩
theorem ev_step {α:Type} {g f:Nat→Option α} {r:α} (h:∀ k,g (k + 1)=f k) (e:Ev f r):Ev g r:=by
 obtain ⟨K,e⟩:=e
 refine ⟨K + 1,fun k hk=>?_⟩
 obtain ⟨m,rfl⟩:∃ m,k=m + 1:=⟨k - 1,by omega⟩
 rw [h m]
 exact e m (by omega)
theorem ev_succ {α:Type} {g:Nat→Option α} {r:α} (e:Ev (fun k=>g (k + 1)) r):Ev g r:=ev_step (fun _=>rfl) e
theorem ev_eq {α:Type} {g f:Nat→Option α} {r:α} (h:∀ k,g k=f k) (e:Ev f r):Ev g r:=by
 obtain ⟨K,e⟩:=e
 exact ⟨K,fun k hk=>(h k).trans (e k hk)⟩
theorem ev_bind {α β:Type} {g:Nat→Option α} {f:Nat→α→Option β} {a:α} {r:β} (h:Ev g a) (e:Ev (fun n=>f n a) r):Ev (fun n=>(g n).bind (f n)) r:=by
 obtain ⟨K,h⟩:=h
 obtain ⟨M,e⟩:=e
 refine ⟨K + M,fun n hn=>?_⟩
 show (g n).bind (f n)=some r
 rw [h n (by omega)]
 exact e n (by omega)
theorem ev_rounds {α:Type} {g:Nat→Option α} {r:α} (h:Ev g r):∃ k,g k=some r:=by
 obtain ⟨K,h⟩:=h
 exact ⟨K,h K (Nat.le_refl _)⟩
theorem ev_one {α:Type} {g:Nat→Option α} {a b:α} (h:Ev g a) (e:Ev g b):a=b:=by
 obtain ⟨K,h⟩:=h
 obtain ⟨M,e⟩:=e
 exact Option.some.inj ((h (K + M) (by omega)).symm.trans (e (K + M) (by omega)))
theorem ev_loop {α:Type} (L:Nat→Nat→Option α) (n:Nat) (r:α) (step:∀ i,i < n→Ev (fun k=>L k (i + 1)) r→Ev (fun k=>L k i) r) (stop:Ev (fun k=>L k n) r):∀ i,i≤n→Ev (fun k=>L k i) r:=by
 have h:∀ d i,i + d=n→Ev (fun k=>L k i) r:=by
  intro d
  induction d with
  | zero =>
   intro i hi
   obtain rfl:i=n:=by omega
   exact stop
  | succ d ih=>intro i hi;exact step i (by omega) (ih (i + 1) (by omega))
 exact fun i hi=>h (n - i) i (by omega)
end Go.Proofs.Ythipjoioicmcnaa.Pure
set_option linter.unusedSimpArgs false
set_option linter.unusedVariables false
namespace Go.Proofs.Ythipjoioicmcnaa.Pure
open Go.RowKit Go.Proofs.Ythipjoioicmcnaa.G Go.Proofs.YthipjoioicmcnaaW.PrintWords Go.Proofs.YthipjoioicmcnaaW.PrintLast Go.Proofs.YthipjoioicmcnaaW.PrintMore
theorem shr_nat (z j:Nat) (hj:j≤60):shr .i64 (z:Int) (j:Int)=((z / 2 ^ j:Nat):Int):=by
 unfold shr
 rw [Int.toNat_natCast,show min j IntKind.i64.bits=j from by simp [IntKind.bits];omega]
 norm_cast
theorem shl_nat (z j:Nat) (hj:j≤60) (h:z * 2 ^ j < 4611686018427387904):shl .i64 (z:Int) (j:Int)=((z * 2 ^ j:Nat):Int):=by
 unfold shl
 rw [Int.toNat_natCast,show min j IntKind.i64.bits=j from by simp [IntKind.bits];omega,pow_cast,← Int.natCast_mul,wraps_i64 _ (by omega) (by omega)]
theorem apPow (w:Nat) (h8:w≤8):1≤(2:Int) ^ w∧(2:Int) ^ w≤256:=by
 have:w=0∨w=1∨w=2∨w=3∨w=4∨w=5∨w=6∨w=7∨w=8:=by omega
 rcases this with rfl|rfl|rfl|rfl|rfl|rfl|rfl|rfl|rfl <;> decide
theorem apU (w:Nat) (h8:w≤8):IntKind.u64.wrap (w:Int)=(w:Int):=u64_of (by omega) (by omega)
theorem apMask (w:Nat) (h8:w≤8):wrap64 (shl .i64 1 (w:Int) - 1)=(2:Int) ^ w - 1:=by
 rw [shl_eq w (by omega)]
 have:=apPow w h8
 unfold wrap64
 omega
theorem apAnd (w:Nat) (h8:w≤8) (x:Int):Go.bits .and .i64 x ((2:Int) ^ w - 1)=x % (2:Int) ^ w:=by
 have hP:((2:Int) ^ w - 1)=((2 ^ w - 1:Nat):Int):=by
  have:1≤2 ^ w:=Nat.one_le_two_pow
  push_cast [this]
  rfl
 have hlt:2 ^ w - 1 < 2 ^ 64:=by
  have h1:2 ^ w≤2 ^ 8:=Nat.pow_le_pow_right (by decide) h8
  have h2:(2:Nat) ^ 8 < 2 ^ 64:=by decide
  omega
 have hx:((BitVec.ofInt 64 x).toNat &&& (2 ^ w - 1))=(x % (2:Int) ^ w).toNat:=by
  rw [Nat.and_two_pow_sub_one_eq_mod,BitVec.toNat_ofInt]
  have hd:((2 ^ w:Nat):Int) ∣ ((2 ^ 64:Nat):Int):=by exact_mod_cast Nat.pow_dvd_pow 2 (by omega)
  have h0:0≤x % ((2 ^ 64:Nat):Int):=Int.emod_nonneg _ (by decide)
  have e:(((x % ((2 ^ 64:Nat):Int)).toNat % 2 ^ w:Nat):Int)=x % (2:Int) ^ w:=by
   rw [Int.natCast_emod,Int.toNat_of_nonneg h0,Int.emod_emod_of_dvd _ hd]
   push_cast
   rfl
  rw [← e,Int.toNat_natCast]
 have hn:0≤x % (2:Int) ^ w:=Int.emod_nonneg _ (by have:=apPow w h8;omega)
 have hl:x % (2:Int) ^ w < (2:Int) ^ w:=Int.emod_lt_of_pos _ (by have:=apPow w h8;omega)
 have hb:(BitVec.ofInt 64 ((2 ^ w - 1:Nat):Int)).toNat=2 ^ w - 1:=by
  rw [BitVec.ofInt_natCast,BitVec.toNat_ofNat,Nat.mod_eq_of_lt hlt]
 rw [hP]
 unfold Go.bits
 show IntKind.i64.wrap (((BitVec.ofInt 64 x) &&& (BitVec.ofInt 64 ((2 ^ w - 1:Nat):Int))).toNat:Int)=_
 rw [BitVec.toNat_and,hb,hx,Int.toNat_of_nonneg hn]
 exact wraps_i64 _ hn (by have:=apPow w h8;omega)
theorem apCut (w:Nat) (h8:w≤8) (x:Int):impl_cut.f (w:Int) x=some (x % (2:Int) ^ w):=by
 unfold impl_cut.f
 rw [apU w h8,if_pos (by omega),apMask w h8,apAnd w h8]
theorem apPow2 (w:Nat) (h8:w≤8):Ev (fun k=>spec_l01Pow2.f k (w:Int)) ((2:Int) ^ w):=ev_ge w (fun k hk=>pow2_eq w (by omega) k hk)
def apOk (w:Nat) (a:Int):Bool:=decide (0≤a∧a < (2:Int) ^ w)
theorem apWordI (w:Nat) (h1:1≤w) (h8:w≤8) (a:Int):impl_WordOk.f (w:Int) a=some (apOk w a):=by
 have hp:=apPow w h8
 unfold impl_WordOk.f impl_isWidth.f impl_within.f
 rw [if_pos (show (w:Int) ≥ 1 by omega)]
 simp only [Option.bind_some]
 rw [show decide ((w:Int)≤8)=true from decide_eq_true (by omega),if_pos rfl,apU w h8,if_pos (by omega),apMask w h8]
 unfold apOk
 by_cases h:a ≥ 0
 ·rw [if_pos h]
  simp only [Option.bind_some]
  congr 1
  rw [decide_eq_decide]
  omega
 ·rw [if_neg h]
  simp only [Option.bind_some]
  congr 1
  exact (decide_eq_false (by omega)).symm
theorem apIn (x a b:Int):spec_l01In.f x a b=some (decide (a≤x∧x≤b)):=by
 unfold spec_l01In.f
 by_cases h:x ≥ a
 ·rw [if_pos h]
  congr 1
  rw [decide_eq_decide]
  omega
 ·rw [if_neg h]
  congr 1
  exact (decide_eq_false (by omega)).symm
theorem apWithin (x a b:Int):impl_within.f x a b=some (decide (a≤x∧x≤b)):=by
 unfold impl_within.f
 by_cases h:x ≥ a
 ·rw [if_pos h]
  congr 1
  rw [decide_eq_decide]
  omega
 ·rw [if_neg h]
  congr 1
  exact (decide_eq_false (by omega)).symm
theorem apWordS (w:Nat) (h1:1≤w) (h8:w≤8) (a:Int):Ev (fun k=>spec_WordOk.f k (w:Int) a) (apOk w a):=by
 have hp:=apPow w h8
 refine ev_eq (f:=fun k=>(spec_l01Pow2.f k (w:Int)).bind fun t102=>((spec_l01In.f a 0 (wrap64 (t102 - 1))).bind fun t103=>(some t103))) (fun k=>?_) ?_
 ·unfold spec_WordOk.f
  rw [apIn,show decide ((1:Int)≤(w:Int)∧(w:Int)≤8)=true from decide_eq_true (by omega)]
  simp only [Option.bind_some]
  rw [if_pos trivial]
 ·refine ev_bind (apPow2 w h8) ?_
  rw [apIn]
  simp only [Option.bind_some]
  rw [show decide (0≤a∧a≤wrap64 ((2:Int) ^ w - 1))=apOk w a from by
   unfold apOk wrap64
   rw [decide_eq_decide]
   omega]
  exact ev_some _
theorem apTwoI (w:Nat) (h1:1≤w) (h8:w≤8) (a b:Int):impl_two.f (w:Int) a b=some (apOk w a && apOk w b):=by
 unfold impl_two.f
 rw [apWordI w h1 h8,apWordI w h1 h8]
 simp only [Option.bind_some]
 cases apOk w a <;> simp
theorem apTwoS (w:Nat) (h1:1≤w) (h8:w≤8) (a b:Int):Ev (fun k=>spec_l01Two.f k (w:Int) a b) (apOk w a && apOk w b):=by
 refine ev_bind (f:=fun k t101=>if t101=true then ((spec_WordOk.f k (w:Int) b).bind fun t102=>(some t102)) else (some false)) (apWordS w h1 h8 a) ?_
 cases apOk w a with
 | false=>exact ev_some _
 | true =>
  simp only [if_true,Bool.true_and]
  exact ev_bind (f:=fun _ t=>some t) (apWordS w h1 h8 b) (ev_some _)
def Same (x:Option Int) (y:Nat→Option Int):Prop:=∃ v,x=some v∧Ev y v
theorem apBoth (w:Nat) (h1:1≤w) (h8:w≤8) (a b:Int) (I:Option Int) (S:Nat→Option Int) (z:Int) (h:0≤a→a < (2:Int) ^ w→0≤b→b < (2:Int) ^ w→Same I S) :
  Same ((impl_two.f (w:Int) a b).bind fun t=>if t=true then I else some z) (fun k=>(spec_l01Two.f k (w:Int) a b).bind fun t=>if t=true then S k else some z):=by
 by_cases hok:(apOk w a && apOk w b)=true
 ·have hh:=hok
  simp only [Bool.and_eq_true,apOk,decide_eq_true_eq] at hh
  obtain ⟨v,e1,e2⟩:=h hh.1.1 hh.1.2 hh.2.1 hh.2.2
  refine ⟨v,?_,?_⟩
  ·rw [apTwoI w h1 h8,hok]
   exact e1
  ·refine ev_bind (f:=fun k t=>if t=true then S k else some z) (apTwoS w h1 h8 a b) ?_
   rw [hok]
   exact e2
 ·have h':(apOk w a && apOk w b)=false:=by simpa using hok
  refine ⟨z,?_,?_⟩
  ·rw [apTwoI w h1 h8,h']
   rfl
  ·refine ev_bind (f:=fun k t=>if t=true then S k else some z) (apTwoS w h1 h8 a b) ?_
   rw [h']
   exact ev_some _
theorem apSolo (w:Nat) (h1:1≤w) (h8:w≤8) (a:Int) (I:Option Int) (S:Nat→Option Int) (z:Int) (h:0≤a→a < (2:Int) ^ w→Same I S) :
  Same ((impl_WordOk.f (w:Int) a).bind fun t=>if t=true then I else some z) (fun k=>(spec_WordOk.f k (w:Int) a).bind fun t=>if t=true then S k else some z):=by
 by_cases hok:apOk w a=true
 ·have hh:=hok
  simp only [apOk,decide_eq_true_eq] at hh
  obtain ⟨v,e1,e2⟩:=h hh.1 hh.2
  refine ⟨v,?_,?_⟩
  ·rw [apWordI w h1 h8,hok]
   exact e1
  ·refine ev_bind (f:=fun k t=>if t=true then S k else some z) (apWordS w h1 h8 a) ?_
   rw [hok]
   exact e2
 ·have h':apOk w a=false:=by simpa using hok
  refine ⟨z,?_,?_⟩
  ·rw [apWordI w h1 h8,h']
   rfl
  ·refine ev_bind (f:=fun k t=>if t=true then S k else some z) (apWordS w h1 h8 a) ?_
   rw [h']
   exact ev_some _
theorem apAdd (w:Nat) (h1:1≤w) (h8:w≤8) (a b:Int):Same (impl_Add.f (w:Int) a b) (fun k=>spec_Add.f k (w:Int) a b):=by
 have hp:=apPow w h8
 refine apBoth w h1 h8 a b _ (fun k=>(spec_l01Pow2.f k (w:Int)).bind fun t102=>(if t102=0 then (none) else (some (Int.tmod (wrap64 (a + b)) t102)))) 0 (fun a0 a1 b0 b1=>⟨(a + b) % (2:Int) ^ w,?_,?_⟩)
 ·rw [apCut w h8,show wrap64 (a + b)=a + b from by unfold wrap64;omega]
  rfl
 ·refine ev_bind (f:=fun _ t102=>if t102=0 then (none) else (some (Int.tmod (wrap64 (a + b)) t102))) (apPow2 w h8) ?_
  rw [if_neg (by omega),show wrap64 (a + b)=a + b from by unfold wrap64;omega,Int.tmod_eq_emod_of_nonneg (by omega)]
  exact ev_some _
theorem apSub (w:Nat) (h1:1≤w) (h8:w≤8) (a b:Int):Same (impl_Sub.f (w:Int) a b) (fun k=>spec_Sub.f k (w:Int) a b):=by
 have hp:=apPow w h8
 refine apBoth w h1 h8 a b _ (fun k=>(spec_l01Pow2.f k (w:Int)).bind fun t102=>((spec_l01Pow2.f k (w:Int)).bind fun t103=>(if t103=0 then (none) else (some (Int.tmod (wrap64 ((wrap64 (a + t102)) - b)) t103))))) 0 (fun a0 a1 b0 b1=>⟨(a - b) % (2:Int) ^ w,?_,?_⟩)
 ·rw [apCut w h8,show wrap64 (a - b)=a - b from by unfold wrap64;omega]
  rfl
 ·refine ev_bind (f:=fun k t102=>(spec_l01Pow2.f k (w:Int)).bind fun t103=>(if t103=0 then (none) else (some (Int.tmod (wrap64 ((wrap64 (a + t102)) - b)) t103)))) (apPow2 w h8) ?_
  refine ev_bind (f:=fun _ t103=>if t103=0 then (none) else (some (Int.tmod (wrap64 ((wrap64 (a + (2:Int) ^ w)) - b)) t103))) (apPow2 w h8) ?_
  rw [if_neg (by omega),show wrap64 (wrap64 (a + (2:Int) ^ w) - b)=(a - b) + (2:Int) ^ w from by unfold wrap64;omega,Int.tmod_eq_emod_of_nonneg (by omega),Int.add_emod_right]
  exact ev_some _
theorem apMul (w:Nat) (h1:1≤w) (h8:w≤8) (a b:Int):Same (impl_Mul.f (w:Int) a b) (fun k=>spec_Mul.f k (w:Int) a b):=by
 have hp:=apPow w h8
 refine apBoth w h1 h8 a b _ (fun k=>(spec_l01Pow2.f k (w:Int)).bind fun t102=>(if t102=0 then (none) else (some (Int.tmod (wrap64 (a * b)) t102)))) 0 (fun a0 a1 b0 b1=>⟨(a * b) % (2:Int) ^ w,?_,?_⟩)
 ·have hm:0≤a * b:=Int.mul_nonneg a0 b0
  have hM:a * b≤256 * 256:=Int.mul_le_mul (by omega) (by omega) b0 (by omega)
  rw [apCut w h8,show wrap64 (a * b)=a * b from by unfold wrap64;omega]
  rfl
 ·have hm:0≤a * b:=Int.mul_nonneg a0 b0
  have hM:a * b≤256 * 256:=Int.mul_le_mul (by omega) (by omega) b0 (by omega)
  refine ev_bind (f:=fun _ t102=>if t102=0 then (none) else (some (Int.tmod (wrap64 (a * b)) t102))) (apPow2 w h8) ?_
  rw [if_neg (by omega),show wrap64 (a * b)=a * b from by unfold wrap64;omega,Int.tmod_eq_emod_of_nonneg hm]
  exact ev_some _
theorem apDiv (w:Nat) (h1:1≤w) (h8:w≤8) (a b:Int):Same (impl_Div.f (w:Int) a b) (fun k=>spec_Div.f k (w:Int) a b):=by
 have hp:=apPow w h8
 refine apBoth w h1 h8 a b _ (fun k=>if b=0 then ((spec_l01Pow2.f k (w:Int)).bind fun t102=>(some (wrap64 (t102 - 1)))) else (some (wrap64 (Int.tdiv a b)))) 0 (fun a0 a1 b0 b1=>?_)
 by_cases hb:b=0
 ·rw [if_pos hb]
  simp only [if_pos hb]
  rw [apU w h8,if_pos (by omega),apMask w h8]
  refine ⟨_,rfl,ev_bind (f:=fun _ t102=>some (wrap64 (t102 - 1))) (apPow2 w h8) ?_⟩
  rw [show wrap64 ((2:Int) ^ w - 1)=(2:Int) ^ w - 1 from by unfold wrap64;omega]
  exact ev_some _
 ·rw [if_neg hb]
  simp only [if_neg hb]
  exact ⟨_,rfl,ev_some _⟩
theorem apRem (w:Nat) (h1:1≤w) (h8:w≤8) (a b:Int):Same (impl_Rem.f (w:Int) a b) (fun k=>spec_Rem.f k (w:Int) a b):=by
 refine apBoth w h1 h8 a b _ (fun k=>if b=0 then some a else (some (Int.tmod a b))) 0 (fun a0 a1 b0 b1=>?_)
 by_cases hb:b=0
 ·rw [if_pos hb]
  try simp only [if_pos hb]
  exact ⟨_,rfl,ev_some _⟩
 ·rw [if_neg hb]
  try simp only [if_neg hb]
  exact ⟨_,rfl,ev_some _⟩
theorem apFlip (w:Nat) (h1:1≤w) (h8:w≤8) (a:Int):Same (impl_Flip.f (w:Int) a) (fun k=>spec_Flip.f k (w:Int) a):=by
 have hp:=apPow w h8
 refine apSolo w h1 h8 a _ (fun k=>(spec_l01Pow2.f k (w:Int)).bind fun t102=>(some (wrap64 ((wrap64 (t102 - 1)) - a)))) 0 (fun a0 a1=>?_)
 rw [apU w h8,if_pos (by omega),apMask w h8]
 refine ⟨_,rfl,ev_bind (f:=fun _ t102=>some (wrap64 ((wrap64 (t102 - 1)) - a))) (apPow2 w h8) ?_⟩
 rw [show wrap64 ((2:Int) ^ w - 1)=(2:Int) ^ w - 1 from by unfold wrap64;omega]
 exact ev_some _
theorem apShr (w:Nat) (h1:1≤w) (h8:w≤8) (a b:Int):Same (impl_Shr.f (w:Int) a b) (fun k=>spec_Shr.f k (w:Int) a b):=by
 have hp:=apPow w h8
 refine apBoth w h1 h8 a b _ (fun k=>if b ≥ (w:Int) then some 0 else ((spec_l01Pow2.f k b).bind fun t102=>(if t102=0 then (none) else (some (wrap64 (Int.tdiv a t102)))))) 0 (fun a0 a1 b0 b1=>?_)
 by_cases hb:b ≥ (w:Int)
 ·rw [if_pos hb]
  simp only [if_pos hb]
  exact ⟨_,rfl,ev_some _⟩
 ·rw [if_neg hb]
  simp only [if_neg hb]
  obtain ⟨j,rfl⟩:=Int.eq_ofNat_of_zero_le b0
  obtain ⟨x,rfl⟩:=Int.eq_ofNat_of_zero_le a0
  have hj:j≤8:=by omega
  have hq:=apPow j hj
  rw [apU j hj,if_pos (by omega),shr_nat x j (by omega)]
  refine ⟨_,rfl,ev_bind (f:=fun _ t102=>if t102=0 then (none) else (some (wrap64 (Int.tdiv (x:Int) t102)))) (apPow2 j hj) ?_⟩
  rw [if_neg (by omega),Int.tdiv_eq_ediv_of_nonneg (by omega)]
  have e:(x:Int) / (2:Int) ^ j=((x / 2 ^ j:Nat):Int):=by push_cast;rfl
  have hle:x / 2 ^ j≤x:=Nat.div_le_self _ _
  rw [e]
  generalize x / 2 ^ j=q at hle ⊢
  rw [show wrap64 (q:Int)=(q:Int) from by unfold wrap64;omega]
  exact ev_some _
theorem apShl (w:Nat) (h1:1≤w) (h8:w≤8) (a b:Int):Same (impl_Shl.f (w:Int) a b) (fun k=>spec_Shl.f k (w:Int) a b):=by
 have hp:=apPow w h8
 have key:=apBoth w h1 h8 a b (if b ≥ (w:Int) then (some 0) else (if 0≤(IntKind.u64.wrap b) then ((impl_cut.f (w:Int) (shl .i64 a (IntKind.u64.wrap b))).bind fun t102=>(some t102)) else (none))) (fun k=>spec_Shl.j0 k (w:Int) a b (decide (b ≥ (w:Int)))) 0 (fun a0 a1 b0 b1=>by
  by_cases hb:b ≥ (w:Int)
  ·rw [if_pos hb]
   refine ⟨0,rfl,ev_succ ?_⟩
   simp only [spec_Shl.j0,decide_eq_true hb,if_true]
   exact ev_some _
  ·rw [if_neg hb]
   obtain ⟨j,rfl⟩:=Int.eq_ofNat_of_zero_le b0
   obtain ⟨x,rfl⟩:=Int.eq_ofNat_of_zero_le a0
   have hj:j≤8:=by omega
   have hq:=apPow j hj
   have hx:x≤255:=by omega
   have hj2:2 ^ j≤256:=Nat.le_trans (Nat.pow_le_pow_right (by decide) hj) (by decide)
   have hm:x * 2 ^ j≤255 * 256:=Nat.mul_le_mul hx hj2
   rw [apU j hj,if_pos (by omega),shl_nat x j (by omega) (by omega),apCut w h8]
   refine ⟨_,rfl,ev_succ ?_⟩
   simp only [spec_Shl.j0,decide_eq_false hb,Bool.false_eq_true,if_false]
   refine ev_bind (f:=fun k t102=>(spec_l01Pow2.f k (w:Int)).bind fun t103=>(if t103=0 then (none) else (some (Int.tmod (wrap64 ((x:Int) * t102)) t103)))) (apPow2 j hj) ?_
   refine ev_bind (f:=fun _ t103=>if t103=0 then (none) else (some (Int.tmod (wrap64 ((x:Int) * (2:Int) ^ j)) t103))) (apPow2 w h8) ?_
   have e:(x:Int) * (2:Int) ^ j=((x * 2 ^ j:Nat):Int):=by push_cast;rfl
   rw [if_neg (by omega),e,show wrap64 ((x * 2 ^ j:Nat):Int)=((x * 2 ^ j:Nat):Int) from by unfold wrap64;omega,Int.tmod_eq_emod_of_nonneg (by omega)]
   exact ev_some _)
 obtain ⟨v,e1,e2⟩:=key
 refine ⟨v,e1,?_⟩
 obtain ⟨K,e2⟩:=e2
 refine ⟨K + 1,fun k hk=>?_⟩
 have h:=e2 k (by omega)
 obtain ⟨m,rfl⟩:∃ m,k=m + 1:=⟨k - 1,by omega⟩
 have hz:spec_Shl.j0 (m + 1) (w:Int) a b true=some 0:=by simp [spec_Shl.j0]
 show ((spec_l01Two.f (m + 1) (w:Int) a b).bind fun t101=>if t101=true then spec_Shl.j0 (m + 1) (w:Int) a b (decide (b ≥ (w:Int))) else spec_Shl.j0 (m + 1) (w:Int) a b true)=some v
 rw [hz]
 exact h
theorem apBit (t:Bool):impl_bit.f t=spec_l01Bool.f t:=rfl
theorem apBitS (t:Bool):∃ v,impl_bit.f t=some v:=by cases t <;> exact ⟨_,rfl⟩
theorem apSigned (w:Nat) (h1:1≤w) (h8:w≤8) (a:Int):Same (impl_Signed.f (w:Int) a) (fun k=>spec_Signed.f k (w:Int) a):=by
 have hp:=apPow w h8
 refine apSolo w h1 h8 a _ (fun k=>(spec_l01Pow2.f k (wrap64 ((w:Int) - 1))).bind fun t102=>(if a ≥ t102 then ((spec_l01Pow2.f k (w:Int)).bind fun t103=>(some (wrap64 (a - t103)))) else (some a))) 0 (fun a0 a1=>?_)
 obtain ⟨j,rfl⟩:∃ j,w=j + 1:=⟨w - 1,by omega⟩
 have hj:j≤8:=by omega
 rw [show wrap64 (((j + 1:Nat):Int) - 1)=(j:Int) from by unfold wrap64;omega,apU j hj,apU (j + 1) h8,if_pos (by omega),shl_eq j (by omega),shl_eq (j + 1) (by omega)]
 by_cases hc:a ≥ (2:Int) ^ j
 ·rw [if_pos hc,if_pos (by omega)]
  refine ⟨_,rfl,ev_bind (f:=fun k t102=>if a ≥ t102 then ((spec_l01Pow2.f k ((j + 1:Nat):Int)).bind fun t103=>(some (wrap64 (a - t103)))) else (some a)) (apPow2 j hj) ?_⟩
  simp only [if_pos hc]
  exact ev_bind (f:=fun _ t103=>some (wrap64 (a - t103))) (apPow2 (j + 1) h8) (ev_some _)
 ·rw [if_neg hc]
  refine ⟨_,rfl,ev_bind (f:=fun k t102=>if a ≥ t102 then ((spec_l01Pow2.f k ((j + 1:Nat):Int)).bind fun t103=>(some (wrap64 (a - t103)))) else (some a)) (apPow2 j hj) ?_⟩
  simp only [if_neg hc]
  exact ev_some _
theorem apLess (w:Nat) (h1:1≤w) (h8:w≤8) (a b:Int):Same (impl_Less.f (w:Int) a b) (fun k=>spec_Less.f k (w:Int) a b):=by
 refine apBoth w h1 h8 a b ((impl_bit.f (decide (a < b))).bind fun t102=>(some t102)) (fun k=>(spec_l01Bool.f (decide (a < b))).bind fun t102=>(some t102)) 0 (fun a0 a1 b0 b1=>?_)
 obtain ⟨v,hv⟩:=apBitS (decide (a < b))
 have hs:=(apBit (decide (a < b))).symm.trans hv
 exact ⟨v,by rw [hv];rfl,by rw [hs];exact ev_some _⟩
theorem apLessSigned (w:Nat) (h1:1≤w) (h8:w≤8) (a b:Int):Same (impl_LessSigned.f (w:Int) a b) (fun k=>spec_LessSigned.f k (w:Int) a b):=by
 refine apBoth w h1 h8 a b ((impl_Signed.f (w:Int) a).bind fun t102=>((impl_Signed.f (w:Int) b).bind fun t103=>((impl_bit.f (decide (t102 < t103))).bind fun t104=>(some t104)))) (fun k=>(spec_Signed.f k (w:Int) a).bind fun t102=>((spec_Signed.f k (w:Int) b).bind fun t103=>((spec_l01Bool.f (decide (t102 < t103))).bind fun t104=>(some t104)))) 0 (fun a0 a1 b0 b1=>?_)
 obtain ⟨x,e1,e2⟩:=apSigned w h1 h8 a
 obtain ⟨y,e3,e4⟩:=apSigned w h1 h8 b
 obtain ⟨v,hv⟩:=apBitS (decide (x < y))
 have hs:=(apBit (decide (x < y))).symm.trans hv
 refine ⟨v,by rw [e1,e3];simp only [Option.bind_some];rw [hv];rfl,?_⟩
 refine ev_bind (f:=fun k t102=>(spec_Signed.f k (w:Int) b).bind fun t103=>((spec_l01Bool.f (decide (t102 < t103))).bind fun t104=>(some t104))) e2 ?_
 refine ev_bind (f:=fun k t103=>(spec_l01Bool.f (decide (x < t103))).bind fun t104=>(some t104)) e4 ?_
 rw [hs]
 exact ev_some _
theorem apSlice (w:Nat) (h1:1≤w) (h8:w≤8) (n:Nat) (n1:1≤n) (n8:n≤8) (a low:Int) (hl : -9223372036854775808≤low∧low≤9223372036854775807):Same (impl_Slice.f (w:Int) a low (n:Int)) (fun k=>spec_Slice.f k (w:Int) a low (n:Int)):=by
 have hp:=apPow w h8
 have key:=apSolo w h1 h8 a ((impl_within.f (n:Int) 1 (w:Int)).bind fun t102=>(if t102=true then ((impl_within.f low 0 (wrap64 ((w:Int) - (n:Int)))).bind fun t103=>(if t103=true then (if 0≤(IntKind.u64.wrap (low)) then ((impl_cut.f (n:Int) (shr .i64 a (IntKind.u64.wrap (low)))).bind fun t104=>(some t104)) else (none)) else (some 0))) else (some 0))) (fun k=>if low < 0 then (spec_Slice.j0 k a low (n:Int) true) else ((spec_l01In.f (n:Int) 1 (wrap64 ((w:Int) - low))).bind fun t102=>(spec_Slice.j0 k a low (n:Int) (!t102)))) 0 (fun a0 a1=>by
  simp only [apWithin,apIn,Option.bind_some]
  have stop:Ev (fun k=>spec_Slice.j0 k a low (n:Int) true) 0:=ev_succ (by simp only [spec_Slice.j0,if_true];exact ev_some _)
  by_cases hr:0≤low∧low + (n:Int)≤(w:Int)
  ·rw [decide_eq_true (show (1:Int)≤(n:Int)∧(n:Int)≤(w:Int) by omega),if_pos rfl,decide_eq_true (show (0:Int)≤low∧low≤wrap64 ((w:Int) - (n:Int)) by unfold wrap64;omega),if_pos rfl]
   obtain ⟨j,rfl⟩:=Int.eq_ofNat_of_zero_le hr.1
   obtain ⟨x,rfl⟩:=Int.eq_ofNat_of_zero_le a0
   have hj:j≤8:=by omega
   have hq:=apPow j hj
   have hn:=apPow n n8
   simp only [if_neg (show ¬ (j:Int) < 0 by omega)]
   rw [decide_eq_true (show (1:Int)≤(n:Int)∧(n:Int)≤wrap64 ((w:Int) - (j:Int)) by unfold wrap64;omega),apU j hj,if_pos (by omega),shr_nat x j (by omega),apCut n n8]
   refine ⟨_,rfl,ev_succ ?_⟩
   simp only [spec_Slice.j0,Bool.not_true,Bool.false_eq_true,if_false]
   refine ev_bind (f:=fun k t103=>if t103=0 then (none) else ((spec_l01Pow2.f k (n:Int)).bind fun t104=>(if t104=0 then (none) else (some (Int.tmod (wrap64 (Int.tdiv (x:Int) t103)) t104))))) (apPow2 j hj) ?_
   simp only [if_neg (show ¬ (2:Int) ^ j=0 by omega)]
   refine ev_bind (f:=fun k t104=>if t104=0 then (none) else (some (Int.tmod (wrap64 (Int.tdiv (x:Int) ((2:Int) ^ j))) t104))) (apPow2 n n8) ?_
   rw [if_neg (by omega),Int.tdiv_eq_ediv_of_nonneg (by omega)]
   have e:(x:Int) / (2:Int) ^ j=((x / 2 ^ j:Nat):Int):=by push_cast;rfl
   have hle:x / 2 ^ j≤x:=Nat.div_le_self _ _
   rw [e]
   generalize x / 2 ^ j=q at hle ⊢
   rw [show wrap64 (q:Int)=(q:Int) from by unfold wrap64;omega,Int.tmod_eq_emod_of_nonneg (by omega)]
   exact ev_some _
  ·refine ⟨0,?_,?_⟩
   ·by_cases hn:(1:Int)≤(n:Int)∧(n:Int)≤(w:Int)
    ·rw [decide_eq_true hn,if_pos rfl,decide_eq_false (show ¬ ((0:Int)≤low∧low≤wrap64 ((w:Int) - (n:Int))) by unfold wrap64;omega),if_neg (by decide)]
    ·rw [decide_eq_false hn,if_neg (by decide)]
   ·by_cases hz:low < 0
    ·simp only [if_pos hz]
     exact stop
    ·simp only [if_neg hz]
     rw [decide_eq_false (show ¬ ((1:Int)≤(n:Int)∧(n:Int)≤wrap64 ((w:Int) - low)) by unfold wrap64;omega)]
     exact stop)
 obtain ⟨v,e1,e2⟩:=key
 refine ⟨v,e1,?_⟩
 obtain ⟨K,e2⟩:=e2
 refine ⟨K + 1,fun k hk=>?_⟩
 have h:=e2 k (by omega)
 obtain ⟨m,rfl⟩:∃ m,k=m + 1:=⟨k - 1,by omega⟩
 have hz:spec_Slice.j0 (m + 1) a low (n:Int) true=some 0:=by simp [spec_Slice.j0]
 show ((spec_WordOk.f (m + 1) (w:Int) a).bind fun t101=>if t101=true then (if low < 0 then (spec_Slice.j0 (m + 1) a low (n:Int) true) else ((spec_l01In.f (n:Int) 1 (wrap64 ((w:Int) - low))).bind fun t102=>(spec_Slice.j0 (m + 1) a low (n:Int) (!t102)))) else spec_Slice.j0 (m + 1) a low (n:Int) true)=some v
 rw [hz]
 dsimp only at h
 rw [hz] at h
 exact h
def apG (W w a b c:Int):Bool:=decide (1≤W∧W≤8) && (decide (1≤w∧w≤8) && (decide (0≤a∧a≤255) && (decide (0≤b∧b≤255) && decide (0≤c∧c≤255))))
theorem apI (k:Nat) (o W K A B C w a b c:Int):impl_Apply.f k o W K A B C w a b c=impl_Apply.j0 k w a b c (!apG W w a b c) o W K A B C:=by
 simp only [impl_Apply.f,impl_isWidth.f,impl_isByte.f,apWithin,Option.bind_some,apG]
 cases decide (1≤W∧W≤8) <;> cases decide (1≤w∧w≤8) <;> cases decide (0≤a∧a≤255) <;> cases decide (0≤b∧b≤255) <;> cases decide (0≤c∧c≤255) <;> rfl
theorem apS (k:Nat) (o W K A B C w a b c:Int):spec_Apply.f k o W K A B C w a b c=spec_Apply.j0 k w a b c (!apG W w a b c) o W K A B C:=by
 simp only [spec_Apply.f,apIn,Option.bind_some,apG]
 cases decide (1≤W∧W≤8) <;> cases decide (1≤w∧w≤8) <;> cases decide (0≤a∧a≤255) <;> cases decide (0≤b∧b≤255) <;> cases decide (0≤c∧c≤255) <;> rfl
theorem Same.both {I:Option Int} {S:Nat→Option Int} (h:Same I S):∃ v,Ev (fun _=>I.bind fun t=>some t) v∧Ev (fun k=>(S k).bind fun t=>some t) v:=by
 obtain ⟨v,e1,e2⟩:=h
 exact ⟨v,by rw [e1];exact ev_some _,ev_bind (f:=fun _ t=>some t) e2 (ev_some _)⟩
theorem apApply (o W K A B C w a b c:Int) (hK : -9223372036854775808≤K∧K≤9223372036854775807):∃ v,Ev (fun k=>impl_Apply.f k o W K A B C w a b c) v∧Ev (fun k=>spec_Apply.f k o W K A B C w a b c) v:=by
 simp only [apI,apS]
 cases hg:apG W w a b c with
 | false=>exact ⟨0,ev_succ (by simp only [impl_Apply.j0,Bool.not_false,if_true];exact ev_some _),ev_succ (by simp only [spec_Apply.j0,Bool.not_false,if_true];exact ev_some _)⟩
 | true =>
  simp only [apG,Bool.and_eq_true,decide_eq_true_eq] at hg
  obtain ⟨hW,hw,ha,hb,hc⟩:=hg
  obtain ⟨n,rfl⟩:=Int.eq_ofNat_of_zero_le (show 0≤W by omega)
  obtain ⟨u,rfl⟩:=Int.eq_ofNat_of_zero_le (show 0≤w by omega)
  have n1:1≤n:=by omega
  have n8:n≤8:=by omega
  have u1:1≤u:=by omega
  have u8:u≤8:=by omega
  suffices h:∃ v,Ev (fun k=>impl_Apply.j0 (k + 1) (u:Int) a b c (!true) o (n:Int) K A B C) v∧Ev (fun k=>spec_Apply.j0 (k + 1) (u:Int) a b c (!true) o (n:Int) K A B C) v by
   obtain ⟨v,e1,e2⟩:=h
   exact ⟨v,ev_succ e1,ev_succ e2⟩
  simp only [impl_Apply.j0,spec_Apply.j0,Bool.not_true,Bool.false_eq_true,if_false,apWithin,Option.bind_some]
  by_cases h0:o=0
  ·simp only [if_pos h0]
   exact ⟨_,ev_some _,ev_some _⟩
  simp only [if_neg h0]
  by_cases h2:o=2
  ·simp only [if_pos h2]
   exact (apFlip n n1 n8 a).both
  simp only [if_neg h2]
  by_cases h3:o=3
  ·subst h3
   simp only [impl_binary.f,show decide ((3:Int)≤3∧(3:Int)≤12)=true from rfl,if_true,Option.bind_some]
   exact ⟨_,ev_some _,ev_some _⟩
  by_cases h4:o=4
  ·subst h4
   simp only [impl_binary.f,show decide ((3:Int)≤4∧(4:Int)≤12)=true from rfl,if_true,Option.bind_some,if_neg h3]
   exact ⟨_,ev_some _,ev_some _⟩
  by_cases h5:o=5
  ·subst h5
   simp only [impl_binary.f,show decide ((3:Int)≤5∧(5:Int)≤12)=true from rfl,if_true,Option.bind_some,if_neg h3,if_neg h4]
   exact ⟨_,ev_some _,ev_some _⟩
  by_cases h6:o=6
  ·subst h6
   simp only [impl_binary.f,show decide ((3:Int)≤6∧(6:Int)≤12)=true from rfl,if_true,Option.bind_some,if_neg h3,if_neg h4,if_neg h5]
   obtain ⟨v,e1,e2⟩:=apAdd n n1 n8 a b
   exact ⟨v,by rw [e1];exact ev_some _,ev_bind (f:=fun _ t=>some t) e2 (ev_some _)⟩
  by_cases h7:o=7
  ·subst h7
   simp only [impl_binary.f,show decide ((3:Int)≤7∧(7:Int)≤12)=true from rfl,if_true,Option.bind_some,if_neg h3,if_neg h4,if_neg h5,if_neg h6]
   obtain ⟨v,e1,e2⟩:=apSub n n1 n8 a b
   exact ⟨v,by rw [e1];exact ev_some _,ev_bind (f:=fun _ t=>some t) e2 (ev_some _)⟩
  by_cases h8:o=8
  ·subst h8
   simp only [impl_binary.f,show decide ((3:Int)≤8∧(8:Int)≤12)=true from rfl,if_true,Option.bind_some,if_neg h3,if_neg h4,if_neg h5,if_neg h6,if_neg h7]
   obtain ⟨v,e1,e2⟩:=apMul n n1 n8 a b
   exact ⟨v,by rw [e1];exact ev_some _,ev_bind (f:=fun _ t=>some t) e2 (ev_some _)⟩
  by_cases h9:o=9
  ·subst h9
   simp only [impl_binary.f,show decide ((3:Int)≤9∧(9:Int)≤12)=true from rfl,if_true,Option.bind_some,if_neg h3,if_neg h4,if_neg h5,if_neg h6,if_neg h7,if_neg h8]
   obtain ⟨v,e1,e2⟩:=apDiv n n1 n8 a b
   exact ⟨v,by rw [e1];exact ev_some _,ev_bind (f:=fun _ t=>some t) e2 (ev_some _)⟩
  by_cases h10:o=10
  ·subst h10
   simp only [impl_binary.f,show decide ((3:Int)≤10∧(10:Int)≤12)=true from rfl,if_true,Option.bind_some,if_neg h3,if_neg h4,if_neg h5,if_neg h6,if_neg h7,if_neg h8,if_neg h9]
   obtain ⟨v,e1,e2⟩:=apRem n n1 n8 a b
   exact ⟨v,by rw [e1];exact ev_some _,ev_bind (f:=fun _ t=>some t) e2 (ev_some _)⟩
  by_cases h11:o=11
  ·subst h11
   simp only [impl_binary.f,show decide ((3:Int)≤11∧(11:Int)≤12)=true from rfl,if_true,Option.bind_some,if_neg h3,if_neg h4,if_neg h5,if_neg h6,if_neg h7,if_neg h8,if_neg h9,if_neg h10]
   obtain ⟨v,e1,e2⟩:=apShl n n1 n8 a b
   exact ⟨v,by rw [e1];exact ev_some _,ev_bind (f:=fun _ t=>some t) e2 (ev_some _)⟩
  by_cases h12:o=12
  ·subst h12
   simp only [impl_binary.f,show decide ((3:Int)≤12∧(12:Int)≤12)=true from rfl,if_true,Option.bind_some,if_neg h3,if_neg h4,if_neg h5,if_neg h6,if_neg h7,if_neg h8,if_neg h9,if_neg h10,if_neg h11]
   obtain ⟨v,e1,e2⟩:=apShr n n1 n8 a b
   exact ⟨v,by rw [e1];exact ev_some _,ev_bind (f:=fun _ t=>some t) e2 (ev_some _)⟩
  simp only [if_neg h3,if_neg h4,if_neg h5,if_neg h6,if_neg h7,if_neg h8,if_neg h9,if_neg h10,if_neg h11,if_neg h12]
  rw [show decide ((3:Int)≤o∧o≤12)=false from decide_eq_false (by omega)]
  simp only [Bool.false_eq_true,if_false]
  by_cases h13:o=13
  ·simp only [if_pos h13]
   obtain ⟨v,hv⟩:=apBitS (a == b)
   have hs:=(apBit (a == b)).symm.trans hv
   exact ⟨v,by rw [hv];exact ev_some _,by rw [hs];exact ev_some _⟩
  simp only [if_neg h13]
  by_cases h14:o=14
  ·simp only [if_pos h14]
   exact (apLess u u1 u8 a b).both
  simp only [if_neg h14]
  by_cases h15:o=15
  ·simp only [if_pos h15]
   exact (apLessSigned u u1 u8 a b).both
  simp only [if_neg h15]
  by_cases h16:o=16
  ·simp only [if_pos h16]
   by_cases hj:(n:Int) < (u:Int)
   ·simp only [if_pos hj,decide_eq_true hj]
    exact ⟨b,ev_succ (by simp only [impl_Apply.j1,if_true];exact ev_some _),ev_some _⟩
   ·simp only [if_neg hj,decide_eq_false hj]
    obtain ⟨j,rfl⟩:∃ j,n=u + j:=⟨n - u,by omega⟩
    have hj8:j≤8:=by omega
    have hq:=apPow j hj8
    obtain ⟨x,rfl⟩:=Int.eq_ofNat_of_zero_le ha.1
    have hx:x≤255:=by omega
    have hj2:2 ^ j≤256:=Nat.le_trans (Nat.pow_le_pow_right (by decide) hj8) (by decide)
    have hm:x * 2 ^ j≤255 * 256:=Nat.mul_le_mul hx hj2
    have ew:wrap64 (((u + j:Nat):Int) - (u:Int))=(j:Int):=by unfold wrap64;omega
    have e:(x:Int) * (2:Int) ^ j=((x * 2 ^ j:Nat):Int):=by push_cast;rfl
    refine ⟨wrap64 (((x * 2 ^ j:Nat):Int) + b),ev_succ ?_,?_⟩
    ·simp only [impl_Apply.j1,Bool.false_eq_true,if_false,if_pos h16,ew]
     rw [apU j hj8,if_pos (by omega),shl_nat x j (by omega) (by omega)]
     exact ev_some _
    ·rw [ew]
     refine ev_bind (f:=fun _ t118=>some (wrap64 ((wrap64 ((x:Int) * t118)) + b))) (apPow2 j hj8) ?_
     rw [e,show wrap64 ((x * 2 ^ j:Nat):Int)=((x * 2 ^ j:Nat):Int) from by unfold wrap64;omega]
     exact ev_some _
  simp only [if_neg h16]
  by_cases h17:o=17
  ·simp only [if_pos h17]
   obtain ⟨v,e1,e2⟩:=(apSlice u u1 u8 n n1 n8 a K hK).both
   refine ⟨v,ev_succ ?_,e2⟩
   simp only [impl_Apply.j1,Bool.false_eq_true,if_false,if_neg h16,if_pos h17]
   exact e1
  simp only [if_neg h17]
  by_cases h18:o=18
  ·simp only [if_pos h18]
   by_cases hx:a=1
   ·refine ⟨b,ev_succ ?_,?_⟩
    ·simp only [impl_Apply.j1,Bool.false_eq_true,if_false,if_neg h16,if_neg h17,if_pos h18,beq_iff_eq.2 hx]
     exact ev_succ (by simp only [impl_Apply.j2,if_true];exact ev_some _)
    ·simp only [if_pos hx]
     exact ev_some _
   ·refine ⟨c,ev_succ ?_,?_⟩
    ·simp only [impl_Apply.j1,Bool.false_eq_true,if_false,if_neg h16,if_neg h17,if_pos h18,beq_eq_false_iff_ne.2 hx]
     exact ev_succ (by simp only [impl_Apply.j2,Bool.false_eq_true,if_false,if_pos h18];exact ev_some _)
    ·simp only [if_neg hx]
     exact ev_some _
  simp only [if_neg h18]
  refine ⟨0,ev_succ ?_,ev_some _⟩
  simp only [impl_Apply.j1,Bool.false_eq_true,if_false,if_neg h16,if_neg h17,if_neg h18]
  exact ev_succ (by simp only [impl_Apply.j2,Bool.false_eq_true,if_false,if_neg h18];exact ev_some _)
theorem tm_front {α:Type} (x y:List α) (i:Nat) (v:α) (hx:i < x.length) (hy:i < y.length) (h:x[i]? = some v):(x.take i ++ y.drop i).set i v=x.take (i + 1) ++ y.drop (i + 1):=by
 apply List.ext_getElem?
 intro j
 rw [List.getElem?_set]
 simp only [List.length_append,List.length_take,List.length_drop,List.getElem?_append,List.getElem?_take,List.getElem?_drop]
 by_cases hj:i=j
 ·subst hj
  rw [if_pos rfl,if_pos (by omega),if_pos (by omega),if_pos (by omega)]
  exact h.symm
 ·rw [if_neg hj]
  by_cases h1:j < i
  ·rw [if_pos (by omega),if_pos (by omega),if_pos (by omega),if_pos (by omega)]
  ·rw [if_neg (by omega),if_neg (by omega)]
   congr 1
   omega
theorem eqQuantS_ev (l:List S66) (hl:l.length≤1048576):Ev (fun k=>laws_eqQuantS.f k l l) true:=by
 unfold laws_eqQuantS.f
 simp only [if_true]
 have main:∀ i,i≤l.length→Ev (fun k=>laws_eqQuantS.l0 k l l (i:Int)) true:=by
  refine ev_loop (fun k i=>laws_eqQuantS.l0 k l l (i:Int)) l.length _ (fun i hi e=>?_) ?_
  ·refine ev_succ ?_
   simp only [laws_eqQuantS.l0,if_pos (show (i:Int) < (l.length:Int) by omega),if_pos (show 0≤(i:Int) by omega),laws_eqQuant.f,bne_self_eq_false,Bool.false_eq_true,if_false,if_true,Option.bind_some,w64s i (show i < 4611686018427387904 by omega)]
   exact e
  ·refine ev_succ ?_
   simp only [laws_eqQuantS.l0,if_neg (show ¬ (l.length:Int) < (l.length:Int) by omega)]
   exact ev_some _
 exact main 0 (by omega)
theorem rdN_nat (L:List S99) (i:Nat):rd_T99 L (i:Int)=L.getD i z99:=by unfold rd_T99;simp
theorem eqNodeS_ev (l:List S99) (hl:l.length≤1048576):Ev (fun k=>laws_eqNodeS.f k l l) true:=by
 unfold laws_eqNodeS.f
 simp only [if_true]
 have main:∀ i,i≤l.length→Ev (fun k=>laws_eqNodeS.l0 k l l (i:Int)) true:=by
  refine ev_loop (fun k i=>laws_eqNodeS.l0 k l l (i:Int)) l.length _ (fun i hi e=>?_) ?_
  ·refine ev_succ ?_
   simp only [laws_eqNodeS.l0,if_pos (show (i:Int) < (l.length:Int) by omega),if_pos (show 0≤(i:Int) by omega),laws_eqNode.f,if_true,Option.bind_some,w64s i (show i < 4611686018427387904 by omega)]
   exact e
  ·refine ev_succ ?_
   simp only [laws_eqNodeS.l0,if_neg (show ¬ (l.length:Int) < (l.length:Int) by omega)]
   exact ev_some _
 exact main 0 (by omega)
def cvQ (l:List S97):List S66:=l.map fun x=>⟨x.f0,x.f1,x.f2⟩
theorem cvQ_length (l:List S97):(cvQ l).length=l.length:=by simp [cvQ]
theorem rdLQ_nat (L:List S97) (i:Nat):rd_T97 L (i:Int)=L.getD i z97:=by unfold rd_T97;simp
theorem toQuantS_ev (l:List S97) (hl:l.length≤1048576):Ev (fun k=>laws_toQuantS.f k l) (cvQ l):=by
 unfold laws_toQuantS.f
 simp only [if_pos (show 0≤(l.length:Int) by omega),Int.toNat_natCast,if_pos (show l.length≤11728124029610 by omega)]
 have hc:=cvQ_length l
 have main:∀ i,i≤l.length→Ev (fun k=>laws_toQuantS.l0 k l ((cvQ l).take i ++ (List.replicate l.length z66).drop i) (i:Int)) (cvQ l):=by
  refine ev_loop (fun k i=>laws_toQuantS.l0 k l ((cvQ l).take i ++ (List.replicate l.length z66).drop i) (i:Int)) l.length _ (fun i hi e=>?_) ?_
  ·refine ev_succ ?_
   simp only [laws_toQuantS.l0,if_pos (show (i:Int) < (l.length:Int) by omega),if_pos (show 0≤(i:Int) by omega),laws_toQuant.f,Int.toNat_natCast,w64s i (show i < 4611686018427387904 by omega),Option.bind_some]
   simp only [if_pos (show (i:Int) < ((((cvQ l).take i ++ (List.replicate l.length z66).drop i)).length:Int) by simp [hc];omega)]
   rw [tm_front (cvQ l) (List.replicate l.length z66) i _ (by simp [hc];exact hi) (by simp;exact hi) (by
    unfold cvQ
    rw [List.getElem?_map,List.getElem?_eq_getElem hi,rdLQ_nat,getD_lt l i _ hi]
    rfl)]
   exact e
  ·refine ev_succ ?_
   simp only [laws_toQuantS.l0,if_neg (show ¬ (l.length:Int) < (l.length:Int) by omega)]
   rw [List.take_of_length_le (by rw [cvQ_length];omega),List.drop_of_length_le (by simp),List.append_nil]
   exact ev_some _
 have:=main 0 (by omega)
 simpa using this
def cvN (l:List S101):List S99:=l.map fun x=>⟨x.f0,x.f1,x.f2,x.f3,x.f4,x.f5⟩
theorem cvN_length (l:List S101):(cvN l).length=l.length:=by simp [cvN]
theorem rdLN_nat (L:List S101) (i:Nat):rd_T101 L (i:Int)=L.getD i z101:=by unfold rd_T101;simp
theorem toNodeS_ev (l:List S101) (hl:l.length≤1048576):Ev (fun k=>laws_toNodeS.f k l) (cvN l):=by
 unfold laws_toNodeS.f
 simp only [if_pos (show 0≤(l.length:Int) by omega),Int.toNat_natCast,if_pos (show l.length≤5864062014805 by omega)]
 have hc:=cvN_length l
 have main:∀ i,i≤l.length→Ev (fun k=>laws_toNodeS.l0 k l ((cvN l).take i ++ (List.replicate l.length z99).drop i) (i:Int)) (cvN l):=by
  refine ev_loop (fun k i=>laws_toNodeS.l0 k l ((cvN l).take i ++ (List.replicate l.length z99).drop i) (i:Int)) l.length _ (fun i hi e=>?_) ?_
  ·refine ev_succ ?_
   simp only [laws_toNodeS.l0,if_pos (show (i:Int) < (l.length:Int) by omega),if_pos (show 0≤(i:Int) by omega),laws_toNode.f,Int.toNat_natCast,w64s i (show i < 4611686018427387904 by omega),Option.bind_some]
   simp only [if_pos (show (i:Int) < ((((cvN l).take i ++ (List.replicate l.length z99).drop i)).length:Int) by simp [hc];omega)]
   rw [tm_front (cvN l) (List.replicate l.length z99) i _ (by simp [hc];exact hi) (by simp;exact hi) (by
    unfold cvN
    rw [List.getElem?_map,List.getElem?_eq_getElem hi,rdLN_nat,getD_lt l i _ hi]
    rfl)]
   exact e
  ·refine ev_succ ?_
   simp only [laws_toNodeS.l0,if_neg (show ¬ (l.length:Int) < (l.length:Int) by omega)]
   rw [List.take_of_length_le (by rw [cvN_length];omega),List.drop_of_length_le (by simp),List.append_nil]
   exact ev_some _
 have:=main 0 (by omega)
 simpa using this
end Go.Proofs.Ythipjoioicmcnaa.Pure
