-- texts of this session, merged by a program of it (wip/gen/pack.py)
import Derived.Test.YthipjoioicmcnaaKFnExactHoldsFront1
import Derived.Test.YthipjoioicmcnaaKFnExactHoldsFront2
import Derived.Test.YthipjoioicmcnaaKFnExactHoldsFront7
import Derived.Test.YthipjoioicmcnaaKFnExactHoldsFront8
namespace Go.Proofs.Ythipjoioicmcnaa.G
open Go.Proofs.Ythipjoioicmcnaa.Sh
open Go.RowKit Go.Proofs.YthipjoioicmcnaaW.PrintWords Go.Proofs.YthipjoioicmcnaaW.PrintLast Go.Proofs.YthipjoioicmcnaaW.PrintMore
attribute [local go_sem] max2_int min2_int max_two min_two max_three min_three max_four min_four
set_option linter.unusedVariables false
set_option linter.unusedSimpArgs false
def spec_TermOk.l0:Nat→List (S99)→Int→Option (Bool)
 | 0,_,_=>none
 | k + 1,x0,x3=>if x3 < (x0.length:Int) then ((spec_l02Node.f k x0 x3).bind fun A4=>(if A4=true then (spec_TermOk.l0 k x0 (wrap64 (x3 + 1))) else (some false))) else (some true)
def spec_TermOk.f (k:Nat) (l0:List (S99)):Option (Bool):=(spec_l01In.f (l0.length:Int) 1 80).bind fun A3=>(if A3=true then (spec_TermOk.l0 k l0 0) else (some false))
set_option maxHeartbeats 8000000 in
set_option maxRecDepth 100000 in
theorem spec_TermOk.calls (k:Nat) (A0:Option Addr) (c0:Nat) (l0:List (S99)) (r:Bool) (w:World) (hr0:Kd.C k99 w A0 l0.length l0) (hc0:l0.length≤c0) (h:spec_TermOk.f k l0=some r) :
  Calls Try.prog 104 #[.slice A0 l0.length c0] w fun e w'=>e = .returned (.bool r)∧Below w.heap.size w w':=by
 have HR0:=Aside0.mk hr0;have HC0:=Aside0.mk hc0;clear hr0 hc0;have HB:=Aside0.mk (Below.refl w.heap.size w);have H:((spec_l01In.f (l0.length:Int) 1 80).bind fun A3=>(if A3=true then (spec_TermOk.l0 k l0 0) else (some false)))=some r:=h;clear h;replace H:=ob H;obtain ⟨A3,A20,H⟩:=H;replace H:(if A3=true then (spec_TermOk.l0 k l0 0) else (some false))=some r:=H;have A2:=Aside0.mk A20;clear A20
 by_cases c3:A3=true
 ·subst c3
  have H1:(spec_TermOk.l0 k l0 0)=some r:=by rw [if_pos rfl] at H;exact H
  clear H;have H:=H1;clear H1;have H':=Aside0.mk H;clear H
  go_enter Try.func104,Try.ntmps104
  go_wp2_with (first|((with_reducible refine gate_callee (f:=69) rfl ?_);refine goesL_ (some 6) rfl rfl Try.func69 (by kernel_rfl) rfl #[.int .i64 (l0.length:Int),.int .i64 1,.int .i64 80] rfl ml ?_;(with_reducible refine (spec_l01In.calls (l0.length:Int) 1 80 true _ A2.out).mono ?_);rintro e w' ⟨rfl,⟨nd,rfl⟩⟩;refine ⟨_,rfl,?_⟩))
  go_loopg [3] k (fun kq v3 w'=>∃ (A1:Int),v3 = .int .i64 A1∧Aside0 (spec_TermOk.l0 kq l0 A1=some r)∧Aside0 (kq≤k)∧Aside0 (Below w.heap.size w w'))
  case atStart=>exact ⟨(0),(by first|rfl|(simp;done)|(simp [*];done)),H',⟨Nat.le_refl _⟩,⟨by exact tb HB⟩⟩
  case round =>
   clear H';(try clear c1);(try clear p2);(try clear c3);obtain ⟨A1,rfl,HA,HK1,HB⟩:=hrel
   cases gk with
   | zero=>exact absurd HA.out (by simp [spec_TermOk.l0])
   | succ k1 =>
    have H:=HA.out;clear HA;simp only [spec_TermOk.l0] at H
    by_cases c4:A1 < (l0.length:Int)
    ·rw [if_pos c4] at H;have c4b0:decide (A1 < (l0.length:Int))=true:=decide_eq_true c4;clear c4;replace H:=ob H;obtain ⟨A4,A50,H⟩:=H;replace H:(if A4=true then (spec_TermOk.l0 k1 l0 (wrap64 (A1 + 1))) else (some false))=some r:=H;have A5:=Aside0.mk A50;clear A50
     by_cases c6:A4=true
     ·subst c6
      have H1:(spec_TermOk.l0 k1 l0 (wrap64 (A1 + 1)))=some r:=by rw [if_pos rfl] at H;exact H
      clear H;have H:=H1;clear H1;have H':=Aside0.mk H;clear H;go_wp2_with (first|((with_reducible refine gate_callee (f:=130) rfl ?_);refine goesL_ (some 16) rfl rfl Try.func130 (by kernel_rfl) rfl #[.slice A0 l0.length c0,.int .i64 A1] rfl ml ?_;(with_reducible refine (spec_l02Node.calls k1 _ _ l0 A1 true _ ?side1 ?side2 A5.out).mono ?_);(case side1=>exact cw (Kd.C_below HR0.out HB.out));(case side2=>exact HC0.out);rintro e w7 ⟨rfl,hb⟩;refine ⟨_,rfl,?_⟩;replace HB:=Aside0.mk (below_step (tb HB) hb);(try clear hb);(try clear hb2);(try clear hk);(try clear hi)));go_roundg k1
      case measure=>have:=HK1.out;omega
      case rel=>exact ⟨(wrap64 (A1 + 1)),(by first|rfl|(simp;done)|(simp [*];done)),H',⟨by have:=HK1.out;omega⟩,⟨by exact tb HB⟩⟩
     ·replace c6:=Bool.eq_false_iff.mpr c6;subst c6
      have H1:(some false)=some r:=by rw [if_neg (show ¬ (false=true) by decide)] at H;exact H
      clear H;have H:=H1;clear H1;obtain rfl:=os H;go_wp2_with (first|((with_reducible refine gate_callee (f:=130) rfl ?_);refine goesL_ (some 16) rfl rfl Try.func130 (by kernel_rfl) rfl #[.slice A0 l0.length c0,.int .i64 A1] rfl ml ?_;(with_reducible refine (spec_l02Node.calls k1 _ _ l0 A1 false _ ?side1 ?side2 A5.out).mono ?_);(case side1=>exact cw (Kd.C_below HR0.out HB.out));(case side2=>exact HC0.out);rintro e w8 ⟨rfl,hb⟩;refine ⟨_,rfl,?_⟩;replace HB:=Aside0.mk (below_step (tb HB) hb);(try clear hb);(try clear hb2);(try clear hk);(try clear hi)));go_ret;exact ⟨er,tb HB⟩
    ·rw [if_neg c4] at H;have c4b0:decide (A1 < (l0.length:Int))=false:=decide_eq_false c4;clear c4;obtain rfl:=os H;go_wp2;go_ret;exact ⟨er,tb HB⟩
 ·replace c3:=Bool.eq_false_iff.mpr c3;subst c3
  have H1:(some false)=some r:=by rw [if_neg (show ¬ (false=true) by decide)] at H;exact H
  clear H;have H:=H1;clear H1;obtain rfl:=os H
  go_enter Try.func104,Try.ntmps104
  go_wp2_with (first|((with_reducible refine gate_callee (f:=69) rfl ?_);refine goesL_ (some 6) rfl rfl Try.func69 (by kernel_rfl) rfl #[.int .i64 (l0.length:Int),.int .i64 1,.int .i64 80] rfl ml ?_;(with_reducible refine (spec_l01In.calls (l0.length:Int) 1 80 false _ A2.out).mono ?_);rintro e w' ⟨rfl,⟨nd,rfl⟩⟩;refine ⟨_,rfl,?_⟩));go_ret;exact ⟨er,tb HB⟩
def spec_l02Quant.f (a0:Int):Option (Bool):=if a0=19 then (some true) else (some (a0 == 20))
set_option maxHeartbeats 8000000 in
set_option maxRecDepth 100000 in
theorem spec_l02Quant.calls (a0:Int) (r:Bool) (w:World) (h:spec_l02Quant.f a0=some r) :
  Calls Try.prog 103 #[.int .i64 a0] w fun e w'=>e = .returned (.bool r)∧Drawn0 w w':=by
 have H:(if a0=19 then (some true) else (some (a0 == 20)))=some r:=h;clear h
 by_cases c2:a0=19
 ·rw [if_pos c2] at H;have c2b0:(a0 == 19)=true:=beq_iff_eq.mpr c2;have c2b1:(a0 != 19)=false:=bne_eq_false_iff_eq.mpr c2;clear c2;obtain rfl:=os H
  go_enter Try.func103,Try.ntmps103
  go_wp2;go_ret;exact ⟨e1,dn⟩
 ·rw [if_neg c2] at H;have c2b0:(a0 == 19)=false:=beq_eq_false_iff_ne.mpr c2;have c2b1:(a0 != 19)=true:=bne_iff_ne.mpr c2;obtain rfl:=os H
  go_enter Try.func103,Try.ntmps103
  go_wp2;go_ret;exact ⟨e1,dn⟩
mutual
def spec_l02Reach.l0:Nat→List (S99)→List Bool→Int→Option (List Bool)
 | 0,_,_,_=>none
 | k + 1,x0,x3,x4=>if x4 < (x0.length:Int) then (if x3.length < 140737488355328 then (spec_l02Reach.l0 k x0 (x3 ++ [(x4 == (wrap64 ((x0.length:Int) - 1)))]) (wrap64 (x4 + 1))) else (none)) else (spec_l02Reach.l1 k x0 x3 (wrap64 ((x0.length:Int) - 1)))
def spec_l02Reach.l1:Nat→List (S99)→List Bool→Int→Option (List Bool)
 | 0,_,_,_=>none
 | k + 1,x0,x3,x5=>if x5 ≥ 0 then (if 0≤x5 then (if x5 < (x0.length:Int) then ((spec_Parts.f k ((rd_T99 x0 x5).f0) ((rd_T99 x0 x5).f1) ((rd_T99 x0 x5).f2) ((rd_T99 x0 x5).f3) ((rd_T99 x0 x5).f4) ((rd_T99 x0 x5).f5)).bind fun A3=>(spec_l02Reach.l2 k x0 x3 x5 A3 0)) else (none)) else (none)) else (some x3)
def spec_l02Reach.l2:Nat→List (S99)→List Bool→Int→List Int→Int→Option (List Bool)
 | 0,_,_,_,_,_=>none
 | k + 1,x0,x3,x5,x6,x7=>if x7 < (x6.length:Int) then (if 0≤x5 then (if x5 < (x3.length:Int) then (if rdOf false x3 x5=true then (if 0≤x7 then (if 0≤(rd x6 x7) then (if (rd x6 x7) < (x3.length:Int) then (spec_l02Reach.l2 k x0 (x3.set ((rd x6 x7):Int).toNat true) x5 x6 (wrap64 (x7 + 1))) else (none)) else (none)) else (none)) else (spec_l02Reach.l1 k x0 x3 (wrap64 (x5 - 1)))) else (none)) else (none)) else (spec_l02Reach.l1 k x0 x3 (wrap64 (x5 - 1)))
end
def spec_l02Reach.f (k:Nat) (l0:List (S99)):Option (List Bool):=spec_l02Reach.l0 k l0 (([]:List Bool)) 0
set_option maxHeartbeats 8000000 in
set_option maxRecDepth 100000 in
theorem spec_l02Reach.calls (k:Nat) (A0:Option Addr) (c0:Nat) (l0:List (S99)) (r:List Bool) (w:World) (hr0:Kd.C k99 w A0 l0.length l0) (hc0:l0.length≤c0) (h:spec_l02Reach.f k l0=some r) :
  Calls Try.prog 102 #[.slice A0 l0.length c0] w fun e w'=>∃ v0_:Value,e = .returned (v0_)∧Kd.R Kd.bool 4 w' w.heap.size (fun _=>True) v0_ r∧Below w.heap.size w w':=by
 have hu99:=Try.underlying99;have HR0:=Aside0.mk hr0;have HC0:=Aside0.mk hc0;clear hr0 hc0;have HB:=Aside0.mk (Below.refl w.heap.size w);have H:(spec_l02Reach.l0 k l0 (([]:List Bool)) 0)=some r:=h;clear h;obtain ⟨y101,hy101⟩:∃ y_:List Bool,y_=(([]:List Bool)):=⟨_,rfl⟩
 replace H:(spec_l02Reach.l0 k l0 y101 0)=some r:=by first|(rw [hy101];with_reducible exact H)|(have H2_:=(Option.bind_some _ _).symm.trans H;rw [hy101];with_reducible exact H2_)|(have H2_:=(Option.bind_some _ _).symm.trans H;with_reducible exact H2_)|with_reducible exact H|(rw [hy101];exact H)|exact H
 have Ny101:=Aside0.mk hy101;clear hy101;have H':=Aside0.mk H;clear H
 go_enter Try.func102,Try.ntmps102
 go_wp2_with (first|((with_reducible refine gate_dst (N:=8) rfl ?_);refine Kd.R_lit Kd.bool _ 4 ?hg (N:=8) ?hd (xs:=([]:List Bool)) (inner:=[]) (ok:=fun _=>True) (okp:=fun _=>True) ?hr ?hp (fun _ hk=>hk) trivial (Below.refl _ _) (Nat.le_refl _) (by simp) ?_;(case hd=>rfl);(case hg=>rfl);(case hr=>first|(go_simp;done)|(go_simp;rfl));(case hp=>exact (Reps.none _ _));intro v102 w2 ho3 hb hg_ hnew_;clear hg_ hnew_;(first|rw [← Ny101.out] at ho3|(simp only [Int.reduceToNat] at ho3;rw [← Ny101.out] at ho3));have Aa:=Aside0.mk (Kd.R_lower ho3 (below_size (tb HB)));replace HB:=Aside0.mk (below_step (tb HB) hb);clear hb ho3))
 go_loopg [3,4] k (fun kq v3 v4 w'=>∃ (A7:List Bool) (A6:Int),v4 = .int .i64 A6∧Aside0 (spec_l02Reach.l0 kq l0 A7 A6=some r)∧Aside0 (kq≤k)∧Aside0 (Kd.R Kd.bool 4 w' w.heap.size (fun _=>True) v3 A7)∧Aside0 (Below w.heap.size w w'))
 case atStart=>exact ⟨(y101),(0),(by first|rfl|(simp;done)|(simp [*];done)),H',⟨Nat.le_refl _⟩,⟨ra Aa⟩,⟨by exact tb HB⟩⟩
 case round =>
  clear H';(try clear c1);(try clear p2);obtain ⟨A7,A6,rfl,HA,HK1,A5,HB⟩:=hrel
  cases gk with
  | zero=>exact absurd HA.out (by simp [spec_l02Reach.l0])
  | succ k1 =>
   have H:=HA.out;clear HA;simp only [spec_l02Reach.l0] at H
   by_cases c4:A6 < (l0.length:Int)
   ·rw [if_pos c4] at H;have c4b0:decide (A6 < (l0.length:Int))=true:=decide_eq_true c4;clear c4
    by_cases c5:A7.length < 140737488355328
    ·rw [if_pos c5] at H;have LMc5:=Aside0.mk c5;clear c5;obtain ⟨y104,hy104⟩:∃ y_:List Bool,y_=(A7 ++ [(A6 == (wrap64 ((l0.length:Int) - 1)))]):=⟨_,rfl⟩
     replace H:(spec_l02Reach.l0 k1 l0 y104 (wrap64 (A6 + 1)))=some r:=by first|(rw [hy104];with_reducible exact H)|(have H2_:=(Option.bind_some _ _).symm.trans H;rw [hy104];with_reducible exact H2_)|(have H2_:=(Option.bind_some _ _).symm.trans H;with_reducible exact H2_)|with_reducible exact H|(rw [hy104];exact H)|exact H
     have Ny104:=Aside0.mk hy104;clear hy104;have H':=Aside0.mk H;clear H;go_wp2_with (first|((with_reducible refine gate_builtin (b := .append) (xs:=#[.tmp 15,.tmp 21]) rfl ?_);at_builtin;refine Kd.R_append Kd.bool (w0:=w) w.heap.size rfl (.tmp 15) (.tmp 21) 24 4 (.bool false) 1 rfl Try.underlying24 info4 rfl (by decide) (by omega) u3 A7 (A6 == (wrap64 ((l0.length:Int) - 1))) [.bool (A6 == (wrap64 ((l0.length:Int) - 1)))] (fun _=>True) (fun _=>False) rfl rfl ?aP (fun _ hk=>hk.elim) ?aF ?aO ?aB ?aS ?aL ?_;(case aP=>exact rfl);(case aB=>exact (tb HB));(case aF=>exact (fun _ _=>trivial));(case aO=>exact (ra A5));(case aS=>exact (below_size (tb HB)));(case aL=>have:=LMc5.out;omega);intro v105 w6 ho hb hg hat;rw [← Ny104.out] at ho;replace HB:=Aside0.mk (hb);have Ab:=Aside0.mk (ho);clear A5;clear ho hb hg hat));go_roundg k1
     case measure=>have:=HK1.out;omega
     case rel=>exact ⟨(y104),(wrap64 (A6 + 1)),(by first|rfl|(simp;done)|(simp [*];done)),H',⟨by have:=HK1.out;omega⟩,⟨ra Ab⟩,⟨by exact tb HB⟩⟩
    ·rw [if_neg c5] at H;exact absurd H (by simp)
   ·rw [if_neg c4] at H;have c4b0:decide (A6 < (l0.length:Int))=false:=decide_eq_false c4;clear c4;have H':=Aside0.mk H;clear H;go_wp2
    go_loopg [5] k1 (fun kq v5 w'=>∃ (A9:List Bool) (A1:Int),v5 = .int .i64 A1∧Aside0 (spec_l02Reach.l1 kq l0 A9 A1=some r)∧Aside0 (kq≤k1)∧Aside0 (Kd.R Kd.bool 4 w' w.heap.size (fun _=>True) u3 A9)∧Aside0 (Below w.heap.size w w'))
    case atStart=>exact ⟨(A7),(wrap64 ((l0.length:Int) - 1)),(by first|rfl|(simp;done)|(simp [*];done)),H',⟨Nat.le_refl _⟩,⟨ra A5⟩,⟨by exact tb HB⟩⟩
    case round =>
     clear H';(try clear c1);(try clear p2);(try clear c4);(try clear c4b0);(try clear c5);(try clear p6);(try clear p2);obtain ⟨A9,A1,rfl,HA,HK2,A5,HB⟩:=hrel
     cases gk with
     | zero=>exact absurd HA.out (by simp [spec_l02Reach.l1])
     | succ k2 =>
      have H:=HA.out;clear HA;simp only [spec_l02Reach.l1] at H
      by_cases c7:A1 ≥ 0
      ·rw [if_pos c7] at H;have c7b0:decide (0≤A1)=true:=decide_eq_true c7;clear c7
       by_cases c8:0≤A1
       ·rw [if_pos c8] at H;have c8b0:decide (0≤A1)=true:=decide_eq_true c8;clear c8
        by_cases c9:A1 < (l0.length:Int)
        ·rw [if_pos c9] at H;have c9b0:decide (A1 < (l0.length:Int))=true:=decide_eq_true c9;clear c9;replace H:=ob H;obtain ⟨A3,A100,H⟩:=H;replace H:(spec_l02Reach.l2 k2 l0 A9 A1 A3 0)=some r:=H;have A10:=Aside0.mk A100;clear A100;have H':=Aside0.mk H;clear H;have p107:0≤(A1:Int):=od;have q107:A1 < (l0.length:Int):=od;obtain ⟨ad107,e107,hx107_0,hx107_1,hx107_2,hx107_3,hx107_4,hx107_5⟩:=at_T99 HR0.out A1 p107 q107;cases e107;replace hx107_0:=ct HB hx107_0;replace hx107_1:=ct HB hx107_1;replace hx107_2:=ct HB hx107_2;replace hx107_3:=ct HB hx107_3;replace hx107_4:=ct HB hx107_4;replace hx107_5:=ct HB hx107_5;replace p107:=eq_true p107;replace q107:=eq_true q107;go_wp2_with (first|((with_reducible refine gate_callee (f:=99) rfl ?_);refine goesL_ (some 34) rfl rfl Try.func99 (by kernel_rfl) rfl #[.agg #[.int .i64 ((rd_T99 l0 A1).f0),.int .i64 ((rd_T99 l0 A1).f1),.int .i64 ((rd_T99 l0 A1).f2),.int .i64 ((rd_T99 l0 A1).f3),.int .i64 ((rd_T99 l0 A1).f4),.int .i64 ((rd_T99 l0 A1).f5)]] rfl ml ?_;(with_reducible refine (spec_Parts.calls k2 ((rd_T99 l0 A1).f0) ((rd_T99 l0 A1).f1) ((rd_T99 l0 A1).f2) ((rd_T99 l0 A1).f3) ((rd_T99 l0 A1).f4) ((rd_T99 l0 A1).f5) A3 _ A10.out).mono ?_);rintro e w11 ⟨v109,rfl,ho0,hb⟩;refine ⟨_,rfl,?_⟩;replace A5:=Aside0.mk (Kd.R_below (ra A5) hb);have Ac:=Aside0.mk (Kd.R_lower ho0 (below_size (tb HB)));replace HB:=Aside0.mk (below_step (tb HB) hb);(try clear hb);(try clear hb2);(try clear hk);(try clear hi);(try clear ho0)))
         go_loopg [7] k2 (fun kq v7 w'=>∃ (A4:List Bool) (A2:Int),v7 = .int .i64 A2∧Aside0 (spec_l02Reach.l2 kq l0 A4 A1 A3 A2=some r)∧Aside0 (kq≤k2)∧Aside0 (Kd.R Kd.bool 4 w' w.heap.size (fun _=>True) u3 A4)∧Aside0 (Kd.R (Kd.int .i64) 3 w' w.heap.size (fun _=>True) v109 A3)∧Aside0 (Below w.heap.size w w'))
         case atStart=>exact ⟨(A9),(0),(by first|rfl|(simp;done)|(simp [*];done)),H',⟨Nat.le_refl _⟩,⟨ra A5⟩,⟨ra Ac⟩,⟨by exact tb HB⟩⟩
         case round =>
          clear H';(try clear c1);(try clear p1);(try clear q1);(try clear hx1);(try clear p2);(try clear c4);(try clear c4b0);(try clear c5);(try clear p6);(try clear c7);(try clear c7b0);(try clear c8);(try clear c8b0);(try clear c9);(try clear c9b0);(try clear c10);(try clear p10);(try clear q10);(try clear hx10);(try clear hx107_0);(try clear hx107_1);(try clear hx107_2);(try clear hx107_3);(try clear hx107_4);(try clear hx107_5);(try clear p107);(try clear p2);(try clear p6);(try clear q107);obtain ⟨A4,A2,rfl,HA,HK3,A5,A8,HB⟩:=hrel
          cases gk with
          | zero=>exact absurd HA.out (by simp [spec_l02Reach.l2])
          | succ k3 =>
           have H:=HA.out;clear HA;simp only [spec_l02Reach.l2] at H
           by_cases c12:A2 < (A3.length:Int)
           ·rw [if_pos c12] at H;have c12b0:decide (A2 < (A3.length:Int))=true:=decide_eq_true c12;clear c12
            by_cases c13:0≤A1
            ·rw [if_pos c13] at H;have c13b0:decide (0≤A1)=true:=decide_eq_true c13;clear c13
             by_cases c14:A1 < (A4.length:Int)
             ·rw [if_pos c14] at H;have c14b0:decide (A1 < (A4.length:Int))=true:=decide_eq_true c14;clear c14;obtain ⟨bq15,hbq15⟩:∃ b_:Bool,b_=(rdOf false A4 A1):=⟨_,rfl⟩
              replace H:(if bq15=true then (if 0≤A2 then (if 0≤(rd A3 A2) then (if (rd A3 A2) < (A4.length:Int) then (spec_l02Reach.l2 k3 l0 (A4.set ((rd A3 A2):Int).toNat true) A1 A3 (wrap64 (A2 + 1))) else (none)) else (none)) else (none)) else (spec_l02Reach.l1 k3 l0 A4 (wrap64 (A1 - 1))))=some r:=by rw [← hbq15] at H;exact H
              have Nbq15:=Aside0.mk hbq15;clear hbq15
              by_cases c16:bq15=true
              ·subst c16
               have H1:(if 0≤A2 then (if 0≤(rd A3 A2) then (if (rd A3 A2) < (A4.length:Int) then (spec_l02Reach.l2 k3 l0 (A4.set ((rd A3 A2):Int).toNat true) A1 A3 (wrap64 (A2 + 1))) else (none)) else (none)) else (none))=some r:=by rw [if_pos rfl] at H;exact H
               clear H;have H:=H1;clear H1
               by_cases c17:0≤A2
               ·rw [if_pos c17] at H;have c17b0:decide (0≤A2)=true:=decide_eq_true c17;clear c17
                by_cases c18:0≤(rd A3 A2)
                ·rw [if_pos c18] at H;have c18b0:decide (0≤(rd A3 A2))=true:=decide_eq_true c18;clear c18
                 by_cases c19:(rd A3 A2) < (A4.length:Int)
                 ·rw [if_pos c19] at H;have c19b0:decide ((rd A3 A2) < (A4.length:Int))=true:=decide_eq_true c19;clear c19;obtain ⟨y113,hy113⟩:∃ y_:List Bool,y_=(A4.set ((rd A3 A2):Int).toNat true):=⟨_,rfl⟩
                  replace H:(spec_l02Reach.l2 k3 l0 y113 A1 A3 (wrap64 (A2 + 1)))=some r:=by first|(rw [hy113];with_reducible exact H)|(have H2_:=(Option.bind_some _ _).symm.trans H;rw [hy113];with_reducible exact H2_)|(have H2_:=(Option.bind_some _ _).symm.trans H;with_reducible exact H2_)|with_reducible exact H|(rw [hy113];exact H)|exact H
                  have Ny113:=Aside0.mk hy113;clear hy113;have H':=Aside0.mk H;clear H;obtain ⟨Ao21,co21,eo21⟩:=Kd.R_slice A8.out;subst eo21;obtain ⟨Ao22,Ad,eo22⟩:=Kd.R_slice A5.out;subst eo22;have p111:0≤(A1:Int):=od;have q111:A1 < (A4.length:Int):=od;obtain ⟨ad111,e111,hx111_0⟩:=Kd.at_bool (Kd.R_reads' A5.out).2.2 A1 p111 q111
                  (try rw [← Nbq15.out] at hx111_0)
                  cases e111;replace p111:=eq_true p111;replace q111:=eq_true q111;have p112:0≤(A2:Int):=od;have q112:A2 < (A3.length:Int):=od;obtain ⟨ad112,e112,hx112_0⟩:=Kd.at_int (Kd.R_reads' A8.out).2.2 A2 p112 q112;cases e112;replace p112:=eq_true p112;replace q112:=eq_true q112;have p20:0≤((rd A3 A2):Int):=od;have q20:((rd A3 A2):Int) < ((A4.length:Int):Int):=od;obtain ⟨go20,co20,eo20,Ae,gl20,cl20,HG20⟩:=Kd.R_form A5.out (by omega);(first|cases eo20|(injection eo20 with ea_ en_ ec_;(first|subst ea_|(injection ea_ with ea_;subst ea_));subst ec_;clear en_));have GB20:=Aside0.mk Ae;have GG20:=Aside0.mk HG20;clear Ae gl20 HG20;(first|simp only [add_plain] at hx111_0|skip);obtain ⟨hx20_0,hf20_0⟩:=Kd.R_celln false A5.out ((rd A3 A2):Int) p20 q20;replace p20:=eq_true p20;replace q20:=eq_true q20;have HP23:=Kd.R_putg A5.out ((rd A3 A2):Int) true;go_wp2_with (first|((with_reducible refine gate_store (t:=4) (p:=52) rfl ?_);refine store_event (t:=4) (p:=52) (v:=?vo_w24) (w1:=(wr.setCell ⟨go20,((rd A3 A2):Int).toNat,none⟩ (.bool true))) ?hg ?ho ?hn ?hr ?_;(case ho=>rfl);(case hg=>rfl);(case hn=>rfl);(case hr=>first|(go_simp;done)|(go_simp;rfl));intro w24 hw;have hg:wr.grownBy w24 (some go20):=(by rw [hw];exact HP23.2);have hp_:Kd.R Kd.bool 4 w24 w.heap.size (fun _=>True) (.slice (some ⟨go20,0,none⟩) A4.length Ad) y113:=(by rw [hw,Ny113.out];exact HP23.1);clear HP23;replace A8:=Aside0.mk (Kd.R_over' (v:=(.slice (some ⟨go20,0,none⟩) A4.length Ad)) (ra A8) (Kd.R_typed A5.out) (by decide) hg);replace A5:=Aside0.mk (hp_);replace HB:=Aside0.mk ((by rw [hw];exact below_set (HB.out) GB20.out:Below w.heap.size w w24));clear hg hw hp_));go_roundg k3
                  case measure=>have:=HK1.out;have:=HK2.out;have:=HK3.out;omega
                  case rel=>exact ⟨(y113),(wrap64 (A2 + 1)),(by first|rfl|(simp;done)|(simp [*];done)),H',⟨by have:=HK1.out;have:=HK2.out;have:=HK3.out;omega⟩,⟨ra A5⟩,⟨ra A8⟩,⟨by exact tb HB⟩⟩
                 ·rw [if_neg c19] at H;exact absurd H (by simp)
                ·rw [if_neg c18] at H;exact absurd H (by simp)
               ·rw [if_neg c17] at H;exact absurd H (by simp)
              ·replace c16:=Bool.eq_false_iff.mpr c16;subst c16
               have H1:(spec_l02Reach.l1 k3 l0 A4 (wrap64 (A1 - 1)))=some r:=by rw [if_neg (show ¬ (false=true) by decide)] at H;exact H
               clear H;have H:=H1;clear H1;have H':=Aside0.mk H;clear H;obtain ⟨Ao25,co25,eo25⟩:=Kd.R_slice A8.out;subst eo25;obtain ⟨Ao26,co26,eo26⟩:=Kd.R_slice A5.out;subst eo26;have p111:0≤(A1:Int):=od;have q111:A1 < (A4.length:Int):=od;obtain ⟨ad111,e111,hx111_0⟩:=Kd.at_bool (Kd.R_reads' A5.out).2.2 A1 p111 q111
               (try rw [← Nbq15.out] at hx111_0)
               cases e111;replace p111:=eq_true p111;replace q111:=eq_true q111;go_wp2;go_roundg k3
               case measure=>have:=HK1.out;have:=HK2.out;have:=HK3.out;omega
               case rel=>exact ⟨(A4),(wrap64 (A1 - 1)),(by first|rfl|(simp;done)|(simp [*];done)),H',⟨by have:=HK1.out;have:=HK2.out;have:=HK3.out;omega⟩,⟨ra A5⟩,⟨by exact tb HB⟩⟩
             ·rw [if_neg c14] at H;exact absurd H (by simp)
            ·rw [if_neg c13] at H;exact absurd H (by simp)
           ·rw [if_neg c12] at H;have c12b0:decide (A2 < (A3.length:Int))=false:=decide_eq_false c12;clear c12;have H':=Aside0.mk H;clear H;obtain ⟨Ao27,co27,eo27⟩:=Kd.R_slice A8.out;subst eo27;go_wp2;go_roundg k3
            case measure=>have:=HK1.out;have:=HK2.out;have:=HK3.out;omega
            case rel=>exact ⟨(A4),(wrap64 (A1 - 1)),(by first|rfl|(simp;done)|(simp [*];done)),H',⟨by have:=HK1.out;have:=HK2.out;have:=HK3.out;omega⟩,⟨ra A5⟩,⟨by exact tb HB⟩⟩
        ·rw [if_neg c9] at H;exact absurd H (by simp)
       ·rw [if_neg c8] at H;exact absurd H (by simp)
      ·rw [if_neg c7] at H;have c7b0:decide (0≤A1)=false:=decide_eq_false c7;clear c7;obtain rfl:=os H;go_wp2;go_ret;exact ⟨_,er,ra A5,tb HB⟩
def spec_l04Zeros.l0:Nat→List Int→Int→Option (List Int)
 | 0,_,_=>none
 | k + 1,x1,x2=>if x2 < 8 then (if x1.length < 17592186044416 then (spec_l04Zeros.l0 k (x1 ++ [0]) (wrap64 (x2 + 1))) else (none)) else (some x1)
def spec_l04Zeros.f (k:Nat)  : Option (List Int):=spec_l04Zeros.l0 k (([]:List Int)) 0
set_option maxHeartbeats 8000000 in
set_option maxRecDepth 100000 in
theorem spec_l04Zeros.calls (k:Nat)  (r:List Int) (w:World) (h:spec_l04Zeros.f k=some r) :
  Calls Try.prog 82 #[] w fun e w'=>∃ v0_:Value,e = .returned (v0_)∧Kd.R (Kd.int .i64) 3 w' w.heap.size (fun _=>True) v0_ r∧Below w.heap.size w w':=by
 have HB:=Aside0.mk (Below.refl w.heap.size w);have H:(spec_l04Zeros.l0 k (([]:List Int)) 0)=some r:=h;clear h;obtain ⟨y101,hy101⟩:∃ y_:List Int,y_=(([]:List Int)):=⟨_,rfl⟩
 replace H:(spec_l04Zeros.l0 k y101 0)=some r:=by first|(rw [hy101];with_reducible exact H)|(have H2_:=(Option.bind_some _ _).symm.trans H;rw [hy101];with_reducible exact H2_)|(have H2_:=(Option.bind_some _ _).symm.trans H;with_reducible exact H2_)|with_reducible exact H|(rw [hy101];exact H)|exact H
 have Ny101:=Aside0.mk hy101;clear hy101;have H':=Aside0.mk H;clear H
 go_enter Try.func82,Try.ntmps82
 go_wp2_with (first|((with_reducible refine gate_dst (N:=3) rfl ?_);refine Kd.R_lit (Kd.int .i64) _ 3 ?hg (N:=3) ?hd (xs:=([]:List Int)) (inner:=[]) (ok:=fun _=>True) (okp:=fun _=>True) ?hr ?hp (fun _ hk=>hk) trivial (Below.refl _ _) (Nat.le_refl _) (by simp) ?_;(case hd=>rfl);(case hg=>rfl);(case hr=>first|(go_simp;done)|(go_simp;rfl));(case hp=>exact (Reps.none _ _));intro v102 w1 ho2 hb hg_ hnew_;clear hg_ hnew_;(first|rw [← Ny101.out] at ho2|(simp only [Int.reduceToNat] at ho2;rw [← Ny101.out] at ho2));have A3:=Aside0.mk (Kd.R_lower ho2 (below_size (tb HB)));replace HB:=Aside0.mk (below_step (tb HB) hb);clear hb ho2))
 go_loopg [1,2] k (fun kq v1 v2 w'=>∃ (A1:List Int) (A0:Int),v2 = .int .i64 A0∧Aside0 (spec_l04Zeros.l0 kq A1 A0=some r)∧Aside0 (kq≤k)∧Aside0 (Kd.R (Kd.int .i64) 3 w' w.heap.size (fun _=>True) v1 A1)∧Aside0 (Below w.heap.size w w'))
 case atStart=>exact ⟨(y101),(0),(by first|rfl|(simp;done)|(simp [*];done)),H',⟨Nat.le_refl _⟩,⟨ra A3⟩,⟨by exact tb HB⟩⟩
 case round =>
  clear H';(try clear p2);obtain ⟨A1,A0,rfl,HA,HK1,A2,HB⟩:=hrel
  cases gk with
  | zero=>exact absurd HA.out (by simp [spec_l04Zeros.l0])
  | succ k1 =>
   have H:=HA.out;clear HA;simp only [spec_l04Zeros.l0] at H
   by_cases c3:A0 < 8
   ·rw [if_pos c3] at H;have c3b0:decide (A0 < 8)=true:=decide_eq_true c3;clear c3
    by_cases c4:A1.length < 17592186044416
    ·rw [if_pos c4] at H;have LMc4:=Aside0.mk c4;clear c4;obtain ⟨y104,hy104⟩:∃ y_:List Int,y_=(A1 ++ [0]):=⟨_,rfl⟩
     replace H:(spec_l04Zeros.l0 k1 y104 (wrap64 (A0 + 1)))=some r:=by first|(rw [hy104];with_reducible exact H)|(have H2_:=(Option.bind_some _ _).symm.trans H;rw [hy104];with_reducible exact H2_)|(have H2_:=(Option.bind_some _ _).symm.trans H;with_reducible exact H2_)|with_reducible exact H|(rw [hy104];exact H)|exact H
     have Ny104:=Aside0.mk hy104;clear hy104;have H':=Aside0.mk H;clear H;go_wp2_with (first|((with_reducible refine gate_builtin (b := .append) (xs:=#[.tmp 8,.tmp 9]) rfl ?_);at_builtin;refine Kd.R_append (Kd.int .i64) (w0:=w) w.heap.size rfl (.tmp 8) (.tmp 9) 31 3 (.int .i64 0) 8 rfl Try.underlying31 info3 rfl (by decide) (by omega) u1 A1 0 [.int .i64 0] (fun _=>True) (fun _=>False) rfl rfl ?aP (fun _ hk=>hk.elim) ?aF ?aO ?aB ?aS ?aL ?_;(case aP=>exact rfl);(case aB=>exact (tb HB));(case aF=>exact (fun _ _=>trivial));(case aO=>exact (ra A2));(case aS=>exact (below_size (tb HB)));(case aL=>have:=LMc4.out;omega);intro v105 w5 ho hb hg hat;rw [← Ny104.out] at ho;replace HB:=Aside0.mk (hb);have A4:=Aside0.mk (ho);clear A2;clear ho hb hg hat));go_roundg k1
     case measure=>have:=HK1.out;omega
     case rel=>exact ⟨(y104),(wrap64 (A0 + 1)),(by first|rfl|(simp;done)|(simp [*];done)),H',⟨by have:=HK1.out;omega⟩,⟨ra A4⟩,⟨by exact tb HB⟩⟩
    ·rw [if_neg c4] at H;exact absurd H (by simp)
   ·rw [if_neg c3] at H;have c3b0:decide (A0 < 8)=false:=decide_eq_false c3;clear c3;obtain rfl:=os H;go_wp2;go_ret;exact ⟨_,er,ra A2,tb HB⟩
end Go.Proofs.Ythipjoioicmcnaa.G
