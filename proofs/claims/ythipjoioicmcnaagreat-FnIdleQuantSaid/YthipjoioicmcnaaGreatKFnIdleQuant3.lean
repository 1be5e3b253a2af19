-- texts of this session, merged by a program of it (wip/gen/pack.py)
import Derived.Test.YthipjoioicmcnaaGreatKFnIdleQuant2
set_option linter.unusedVariables false
set_option linter.unusedSimpArgs false
set_option maxHeartbeats 80000000
set_option maxRecDepth 100000
namespace Go.Proofs.YthipjoioicmcnaaGreat.G
open Go.RowKit Go.Proofs.YthipjoioicmcnaaGreatW.PrintWords Go.Proofs.YthipjoioicmcnaaGreatW.PrintLast Go.Proofs.YthipjoioicmcnaaGreatW.PrintMore Go.Proofs.YthipjoioicmcnaaGreat.Sh
attribute [local go_sem] max2_int min2_int max_two min_two max_three min_three max_four min_four
mutual
def impl_Rows.l0:Nat→List Bool→List (S31)→Int→Int→Option (List Bool)
 | 0,_,_,_,_=>none
 | k + 1,x3,x11,x12,x13=>if x13 < x12 then (if 0≤x13 then (if x13 < (x11.length:Int) then (impl_Rows.l1 k x3 x11 x12 x13 ((rd_T31 x11 x13).f2) 0 ((rd_T31 x11 x13).f0) ((rd_T31 x11 x13).f1) ((rd_T31 x11 x13).f2)) else (none)) else (none)) else (some x3)
def impl_Rows.l1:Nat→List Bool→List (S31)→Int→Int→Int→Int→Bool→Int→Int→Option (List Bool)
 | 0,_,_,_,_,_,_,_,_,_=>none
 | k + 1,x3,x11,x12,x13,x18,x19,x107000,x107001,x107002=>if x19 < x18 then (if x3.length < 140737488355328 then (impl_Rows.l1 k (x3 ++ [x107000]) x11 x12 x13 x18 (wrap64 (x19 + 1)) x107000 x107001 x107002) else (none)) else (impl_Rows.l0 k x3 x11 x12 (wrap64 (x13 + 1)))
end
def impl_Rows.f (k:Nat) (l0:List (S31)):Option (List Bool):=(some (([]:List Bool):List Bool)).bind fun y101=>((impl_frontBits.f k l0).bind fun A5=>(if A5 < 0 then (some y101) else (impl_Rows.l0 k y101 l0 (l0.length:Int) 0)))
theorem impl_Rows.calls (k:Nat) (A0:Option Addr) (c0:Nat) (l0:List (S31)) (r:List Bool) (w:World) (hr0:Kd.C k31 w A0 l0.length l0) (hc0:l0.length≤c0) (h:impl_Rows.f k l0=some r) :
  Calls Tryz.prog 11 #[.slice A0 l0.length c0] w fun e w'=>∃ v0_:Value,e = .returned (v0_)∧Kd.R Kd.bool 4 w' w.heap.size (fun _=>True) v0_ r∧Below w.heap.size w w':=by
 have hu31:=Tryz.underlying31;have HR0:=Aside0.mk hr0;have HC0:=Aside0.mk hc0;clear hr0 hc0;have HB:=Aside0.mk (Below.refl w.heap.size w);have H:((some (([]:List Bool):List Bool)).bind fun y101=>((impl_frontBits.f k l0).bind fun A5=>(if A5 < 0 then (some y101) else (impl_Rows.l0 k y101 l0 (l0.length:Int) 0))))=some r:=h;clear h;obtain ⟨y101,hy101⟩:∃ y_:List Bool,y_=(([]:List Bool)):=⟨_,rfl⟩;replace H:((impl_frontBits.f k l0).bind fun A5=>(if A5 < 0 then (some y101) else (impl_Rows.l0 k y101 l0 (l0.length:Int) 0)))=some r:=hy_ hy101 H;have Ny101:=Aside0.mk hy101;clear hy101;replace H:=ob H;obtain ⟨A5,A20,H⟩:=H;replace H:(if A5 < 0 then (some y101) else (impl_Rows.l0 k y101 l0 (l0.length:Int) 0))=some r:=H;have A2:=Aside0.mk A20;clear A20
 by_cases c3:A5 < 0
 ·rw [if_pos c3] at H;have c3b0:decide (A5 < 0)=true:=decide_eq_true c3;clear c3;obtain rfl:=os H
  go_enter Tryz.func11,Tryz.ntmps11
  go_wp2_with (first|((with_reducible refine gate_dst (N:=6) rfl ?_);refine Kd.R_lit Kd.bool _ 4 ?hg (N:=6) ?hd (xs:=([]:List Bool)) (inner:=[]) (ok:=fun _=>True) (okp:=fun _=>True) ?hr ?hp (fun _ hk=>hk) trivial (Below.refl _ _) (Nat.le_refl _) (by simp) ?_;(case hd=>rfl);(case hg=>rfl);(case hr=>first|(go_simp;done)|(go_simp;rfl));(case hp=>exact (Reps.none _ _));intro v102 w4 ho5 hb hg_ hnew_;clear hg_ hnew_;(first|rw [← Ny101.out] at ho5|(simp only [Int.reduceToNat] at ho5;rw [← Ny101.out] at ho5));have A6:=Aside0.mk (Kd.R_lower ho5 (below_size (tb HB)));replace HB:=Aside0.mk (below_step (tb HB) hb);clear hb ho5)|((with_reducible refine gate_callee (f:=36) rfl ?_);refine goesL_ (some 8) rfl rfl Tryz.func36 (by kernel_rfl) rfl #[.slice A0 l0.length c0] rfl ml ?_;(with_reducible refine (impl_frontBits.calls k _ _ l0 A5 _ ?side1 ?side2 A2.out).mono ?_);(case side1=>exact cw (Kd.C_below HR0.out HB.out));(case side2=>exact HC0.out);rintro e w6 ⟨rfl,hb⟩;refine ⟨_,rfl,?_⟩;replace A6:=Aside0.mk (Kd.R_below (ra A6) hb);replace HB:=Aside0.mk (below_step (tb HB) hb);(try clear hb);(try clear hb2);(try clear hk);(try clear hi)));go_ret;exact ⟨_,er,ra A6,tb HB⟩
 ·rw [if_neg c3] at H;have c3b0:decide (A5 < 0)=false:=decide_eq_false c3;clear c3;have H':=Aside0.mk H;clear H
  go_enter Tryz.func11,Tryz.ntmps11
  go_wp2_with (first|((with_reducible refine gate_dst (N:=6) rfl ?_);refine Kd.R_lit Kd.bool _ 4 ?hg (N:=6) ?hd (xs:=([]:List Bool)) (inner:=[]) (ok:=fun _=>True) (okp:=fun _=>True) ?hr ?hp (fun _ hk=>hk) trivial (Below.refl _ _) (Nat.le_refl _) (by simp) ?_;(case hd=>rfl);(case hg=>rfl);(case hr=>first|(go_simp;done)|(go_simp;rfl));(case hp=>exact (Reps.none _ _));intro v102 w7 ho8 hb hg_ hnew_;clear hg_ hnew_;(first|rw [← Ny101.out] at ho8|(simp only [Int.reduceToNat] at ho8;rw [← Ny101.out] at ho8));have A6:=Aside0.mk (Kd.R_lower ho8 (below_size (tb HB)));replace HB:=Aside0.mk (below_step (tb HB) hb);clear hb ho8)|((with_reducible refine gate_callee (f:=36) rfl ?_);refine goesL_ (some 8) rfl rfl Tryz.func36 (by kernel_rfl) rfl #[.slice A0 l0.length c0] rfl ml ?_;(with_reducible refine (impl_frontBits.calls k _ _ l0 A5 _ ?side1 ?side2 A2.out).mono ?_);(case side1=>exact cw (Kd.C_below HR0.out HB.out));(case side2=>exact HC0.out);rintro e w9 ⟨rfl,hb⟩;refine ⟨_,rfl,?_⟩;replace A6:=Aside0.mk (Kd.R_below (ra A6) hb);replace HB:=Aside0.mk (below_step (tb HB) hb);(try clear hb);(try clear hb2);(try clear hk);(try clear hi)))
  go_loopg [3,13] k (fun kq v3 v13 w'=>∃ (Aa:List Bool) (A1:Int),v13 = .int .i64 A1∧Aside0 (impl_Rows.l0 kq Aa l0 (l0.length:Int) A1=some r)∧Aside0 (kq≤k)∧Aside0 (Kd.R Kd.bool 4 w' w.heap.size (fun _=>True) v3 Aa)∧Aside0 (Below w.heap.size w w'))
  case atStart=>exact ⟨(y101),(0),(by first|rfl|(simp;done)|(simp [*];done)),H',⟨Nat.le_refl _⟩,⟨ra A6⟩,⟨by exact tb HB⟩⟩
  case round =>
   clear H';(try clear c1);(try clear p2);(try clear c3);(try clear c3b0);obtain ⟨Aa,A1,rfl,HA,HK1,A7,HB⟩:=hrel
   cases gk with
   | zero=>exact absurd HA.out (by simp [impl_Rows.l0])
   | succ k1 =>
    have H:=HA.out;clear HA;simp only [impl_Rows.l0] at H
    by_cases c10:A1 < (l0.length:Int)
    ·rw [if_pos c10] at H;have c10b0:decide (A1 < (l0.length:Int))=true:=decide_eq_true c10;clear c10
     by_cases c11:0≤A1
     ·rw [if_pos c11] at H;have c11b0:decide (0≤A1)=true:=decide_eq_true c11;clear c11
      by_cases c12:A1 < (l0.length:Int)
      ·rw [if_pos c12] at H;have c12b0:decide (A1 < (l0.length:Int))=true:=decide_eq_true c12;clear c12;have H':=Aside0.mk H;clear H;have p105:0≤(A1:Int):=od;have q105:A1 < (l0.length:Int):=od;obtain ⟨ad105,e105,hx105_0,hx105_1,hx105_2⟩:=at_T31 HR0.out A1 p105 q105;cases e105;replace hx105_0:=ct HB hx105_0;replace hx105_1:=ct HB hx105_1;replace hx105_2:=ct HB hx105_2;replace p105:=eq_true p105;replace q105:=eq_true q105;go_wp2_with (first|((with_reducible refine gate_dst (N:=5) rfl ?_);refine bx (N:=5) (cs:=#[.bool false,.int .i64 0,.int .i64 0]) (t:=31) ?_;intro A9 hg w13 hbox hb;replace A7:=Aside0.mk (Kd.R_below (ra A7) hb);have A3:=Aside0.mk (hbox);have GW106:=Aside0.mk ((by rw [hg];exact (below_size (tb HB)):w.heap.size≤A9));have GE106:=Aside0.mk ((by rw [hg];exact (below_size (tb HB)):w.heap.size≤A9));replace HB:=Aside0.mk (below_step (tb HB) hb);clear hb hbox hg;have hcz14__:=c3_ A3;have hfz14__:=f_ A3))
       go_loopg [3,19] k1 (fun kq v3 v19 w'=>∃ (A8:List Bool) (A4:Int),v19 = .int .i64 A4∧Aside0 (impl_Rows.l1 kq A8 l0 (l0.length:Int) A1 ((rd_T31 l0 A1).f2) A4 ((rd_T31 l0 A1).f0) ((rd_T31 l0 A1).f1) ((rd_T31 l0 A1).f2)=some r)∧Aside0 (kq≤k1)∧Aside0 (Kd.R Kd.bool 4 w' w.heap.size (fun _=>True) v3 A8)∧Aside0 (w'.heap[A9]? = some (.cells #[.bool ((rd_T31 l0 A1).f0),.int .i64 ((rd_T31 l0 A1).f1),.int .i64 ((rd_T31 l0 A1).f2)] 31 (0,0)))∧Aside0 (Below w.heap.size w w'))
       case atStart=>exact ⟨(Aa),(0),(by first|rfl|(simp;done)|(simp [*];done)),H',⟨Nat.le_refl _⟩,⟨by exact rfs (Kd.R_types A7.out A3.out (by decide))⟩,⟨by (with_reducible repeat (first|refine blk_drewN ?_ _|refine blk_drew ?_|refine blk_alloc ?_ _));refine blk_put (cs:=#[.bool ((rd_T31 l0 A1).f0),.int .i64 ((rd_T31 l0 A1).f1),.int .i64 0]) ?_ 2 _ rfl;(with_reducible repeat (first|refine blk_drewN ?_ _|refine blk_drew ?_|refine blk_alloc ?_ _));refine blk_put (cs:=#[.bool ((rd_T31 l0 A1).f0),.int .i64 0,.int .i64 0]) ?_ 1 _ rfl;(with_reducible repeat (first|refine blk_drewN ?_ _|refine blk_drew ?_|refine blk_alloc ?_ _));refine blk_put (cs:=#[.bool false,.int .i64 0,.int .i64 0]) ?_ 0 _ rfl;(with_reducible repeat (first|refine blk_drewN ?_ _|refine blk_drew ?_|refine blk_alloc ?_ _));exact A3.out⟩,⟨by exact tb HB⟩⟩
       case round =>
        clear H';(try clear c1);(try clear p1);(try clear q1);(try clear hx1);(try clear p2);(try clear c3);(try clear c3b0);(try clear c10);(try clear c10b0);(try clear p10);(try clear q10);(try clear hx10);(try clear c11);(try clear c11b0);(try clear c12);(try clear c12b0);(try clear hcz14__);(try clear hfz14__);(try clear hx105_0);(try clear hx105_1);(try clear hx105_2);(try clear p105);(try clear p2);(try clear q105);obtain ⟨A8,A4,rfl,HA,HK2,A7,A3,HB⟩:=hrel
        cases gk with
        | zero=>exact absurd HA.out (by simp [impl_Rows.l1])
        | succ k2 =>
         have H:=HA.out;clear HA;simp only [impl_Rows.l1] at H
         by_cases c15:A4 < ((rd_T31 l0 A1).f2)
         ·rw [if_pos c15] at H;have c15b0:decide (A4 < ((rd_T31 l0 A1).f2))=true:=decide_eq_true c15;clear c15
          by_cases c16:A8.length < 140737488355328
          ·rw [if_pos c16] at H;have LMc16:=Aside0.mk c16;clear c16;obtain ⟨y107,hy107⟩:∃ y_:List Bool,y_=(A8 ++ [((rd_T31 l0 A1).f0)]):=⟨_,rfl⟩;replace H:(impl_Rows.l1 k2 y107 l0 (l0.length:Int) A1 ((rd_T31 l0 A1).f2) (wrap64 (A4 + 1)) ((rd_T31 l0 A1).f0) ((rd_T31 l0 A1).f1) ((rd_T31 l0 A1).f2))=some r:=hy_ hy107 H;have Ny107:=Aside0.mk hy107;clear hy107;have H':=Aside0.mk H;clear H;have hcz17__:=c3_ A3;have hfz17__:=f_ A3;go_wp2_with (first|((with_reducible refine gate_builtin (b := .append) (xs:=#[.tmp 21,.tmp 24]) rfl ?_);at_builtin;refine Kd.R_append Kd.bool (w0:=w) w.heap.size rfl (.tmp 21) (.tmp 24) 29 4 (.bool false) 1 rfl Tryz.underlying29 info4 rfl (by decide) (by omega) u3 A8 ((rd_T31 l0 A1).f0) [.bool ((rd_T31 l0 A1).f0)] (fun _=>True) (fun _=>False) rfl rfl ?aP (fun _ hk=>hk.elim) ?aF ?aO ?aB ?aS ?aL ?_;(case aP=>exact rfl);(case aB=>exact (tb HB));(case aF=>exact (fun _ _=>trivial));(case aO=>exact (ra A7));(case aS=>exact (below_size (tb HB)));(case aL=>have:=LMc16.out;omega);intro v108 w18 ho hb hg hat;rw [← Ny107.out] at ho;replace A3:=Aside0.mk (blk_grown (g:=A9) (o := .cells #[.bool ((rd_T31 l0 A1).f0),.int .i64 ((rd_T31 l0 A1).f1),.int .i64 ((rd_T31 l0 A1).f2)] 31 (0,0)) (dr A3) hg (Kd.R_ne A7.out A3.out (by decide)));replace HB:=Aside0.mk (hb);have Ab:=Aside0.mk (ho);clear A7;clear ho hb hg hat));go_roundg k2
           case measure=>have:=HK1.out;have:=HK2.out;omega
           case rel=>exact ⟨(y107),(wrap64 (A4 + 1)),(by first|rfl|(simp;done)|(simp [*];done)),H',⟨by have:=HK1.out;have:=HK2.out;omega⟩,⟨ra Ab⟩,⟨dr A3⟩,⟨by exact tb HB⟩⟩
          ·rw [if_neg c16] at H;exact absurd H (by simp)
         ·rw [if_neg c15] at H;have c15b0:decide (A4 < ((rd_T31 l0 A1).f2))=false:=decide_eq_false c15;clear c15;have H':=Aside0.mk H;clear H;go_wp2;go_roundg k2
          case measure=>have:=HK1.out;have:=HK2.out;omega
          case rel=>exact ⟨(A8),(wrap64 (A1 + 1)),(by first|rfl|(simp;done)|(simp [*];done)),H',⟨by have:=HK1.out;have:=HK2.out;omega⟩,⟨ra A7⟩,⟨by exact tb HB⟩⟩
      ·rw [if_neg c12] at H;exact absurd H (by simp)
     ·rw [if_neg c11] at H;exact absurd H (by simp)
    ·rw [if_neg c10] at H;have c10b0:decide (A1 < (l0.length:Int))=false:=decide_eq_false c10;clear c10;obtain rfl:=os H;go_wp2;go_ret;exact ⟨_,er,ra A7,tb HB⟩
def impl_WordOk.f (a0:Int) (a1:Int):Option (Bool):=(impl_isWidth.f a0).bind fun A1=>(if A1=true then (if 0≤(IntKind.u64.wrap (a0)) then ((impl_within.f a1 0 (wrap64 ((shl .i64 1 (IntKind.u64.wrap (a0))) - 1))).bind fun A0=>(some A0)) else (none)) else (some false))
theorem impl_WordOk.calls (a0:Int) (a1:Int) (r:Bool) (w:World) (h:impl_WordOk.f a0 a1=some r) :
  Calls Tryz.prog 95 #[.int .i64 a0,.int .i64 a1] w fun e w'=>e = .returned (.bool r)∧Drawn0 w w':=by
 have H:((impl_isWidth.f a0).bind fun A1=>(if A1=true then (if 0≤(IntKind.u64.wrap (a0)) then ((impl_within.f a1 0 (wrap64 ((shl .i64 1 (IntKind.u64.wrap (a0))) - 1))).bind fun A0=>(some A0)) else (none)) else (some false)))=some r:=h;clear h;replace H:=ob H;obtain ⟨A1,A30,H⟩:=H
 try dsimp only at H
 have A3:=Aside0.mk A30;clear A30
 by_cases c4:A1=true
 ·subst c4
  have H1:(if 0≤(IntKind.u64.wrap (a0)) then ((impl_within.f a1 0 (wrap64 ((shl .i64 1 (IntKind.u64.wrap (a0))) - 1))).bind fun A0=>(some A0)) else (none))=some r:=by rw [if_pos rfl] at H;exact H
  clear H;have H:=H1;clear H1;obtain ⟨ji5,hji5⟩:∃ j_:Int,(IntKind.u64.wrap (a0))=j_:=⟨_,rfl⟩
  replace H:(if 0≤(ji5) then ((impl_within.f a1 0 (wrap64 ((shl .i64 1 (ji5)) - 1))).bind fun A0=>(some A0)) else (none))=some r:=by first|(rw [hji5] at H;exact H)|(simp only [hji5] at H ⊢;exact H)
  (try rw [hji5] at A3)
  by_cases c6:0≤(ji5)
  ·rw [if_pos c6] at H;have c6b0:=eq_true c6;have c6b1:decide (0≤(ji5))=true:=decide_eq_true c6;clear c6;obtain ⟨ji7,hji7⟩:∃ j_:Int,(shl .i64 1 (ji5))=j_:=⟨_,rfl⟩
   replace H:((impl_within.f a1 0 (wrap64 ((ji7) - 1))).bind fun A0=>(some A0))=some r:=by first|(rw [hji7] at H;exact H)|(simp only [hji7] at H ⊢;exact H)
   (try rw [hji7] at A3)
   have hji7_:(IntKind.i64.wrap (1 * 2 ^ min (ji5).toNat 64))=ji7:=hji7;have hji7z:(ji5)≤64→(IntKind.i64.wrap (1 * 2 ^ (ji5).toNat))=ji7:=shl_small hji7
   have hji7u:(IntKind.i64.wrap (2 ^ min (ji5).toNat 64))=ji7:=by have h_:=hji7_;rw [Int.one_mul] at h_;exact h_
   have hji7v:(ji5)≤64→(IntKind.i64.wrap (2 ^ (ji5).toNat))=ji7:=fun hle_=>by have h_:=hji7z hle_;rw [Int.one_mul] at h_;exact h_
   have hji7y:(wrap64 (1 * 2 ^ min (ji5).toNat 64))=ji7:=(i64_w _).symm.trans hji7_
   have hji7x:(ji5)≤64→(wrap64 (1 * 2 ^ (ji5).toNat))=ji7:=fun h_=>(i64_w _).symm.trans (hji7z h_)
   replace H:=ob H;obtain ⟨A0,A80,H⟩:=H;replace H:(some A0)=some r:=H;have A8:=Aside0.mk A80;clear A80;obtain rfl:=os H
   go_enter Tryz.func95,Tryz.ntmps95
   go_wp2_with (first|((with_reducible refine gate_callee (f:=47) rfl ?_);refine goesL_ (some 6) rfl rfl Tryz.func47 (by kernel_rfl) rfl #[.int .i64 a0] rfl ml ?_;(with_reducible refine (impl_isWidth.calls a0 true _ A3.out).mono ?_);rintro e w' ⟨rfl,⟨nd,rfl⟩⟩;refine ⟨_,rfl,?_⟩)|(go_at_call 75;(try simp only [i64_w,i32_w]);(with_reducible refine (impl_within.calls a1 0 (wrap64 ((ji7) - 1)) A0 _ A8.out).mono ?_);rintro e w' ⟨rfl,⟨nd,rfl⟩⟩));go_ret;exact ⟨by first|rfl|(simp;done)|(simp only [← hji5,← hji7] <;> (first|rfl|simp))|(simp [*];done),by repeat (first|exact Drawn0.refl _|apply Drawn0.step)⟩
  ·rw [if_neg c6] at H;exact absurd H (by simp)
 ·replace c4:=Bool.eq_false_iff.mpr c4;subst c4
  have H1:(some false)=some r:=by rw [if_neg (show ¬ (false=true) by decide)] at H;exact H
  clear H;have H:=H1;clear H1;obtain rfl:=os H
  go_enter Tryz.func95,Tryz.ntmps95
  go_wp2_with (first|((with_reducible refine gate_callee (f:=47) rfl ?_);refine goesL_ (some 6) rfl rfl Tryz.func47 (by kernel_rfl) rfl #[.int .i64 a0] rfl ml ?_;(with_reducible refine (impl_isWidth.calls a0 false _ A3.out).mono ?_);rintro e w' ⟨rfl,⟨nd,rfl⟩⟩;refine ⟨_,rfl,?_⟩));go_ret;exact ⟨e1,dn⟩
def impl_Flip.f (a0:Int) (a1:Int):Option (Int):=(impl_WordOk.f a0 a1).bind fun A0=>(if A0=true then (if 0≤(IntKind.u64.wrap (a0)) then (some (wrap64 ((wrap64 ((shl .i64 1 (IntKind.u64.wrap (a0))) - 1)) - a1))) else (none)) else (some 0))
theorem impl_Flip.calls (a0:Int) (a1:Int) (r:Int) (w:World) (h:impl_Flip.f a0 a1=some r) :
  Calls Tryz.prog 102 #[.int .i64 a0,.int .i64 a1] w fun e w'=>e = .returned (.int .i64 r)∧Drawn0 w w':=by
 have H:((impl_WordOk.f a0 a1).bind fun A0=>(if A0=true then (if 0≤(IntKind.u64.wrap (a0)) then (some (wrap64 ((wrap64 ((shl .i64 1 (IntKind.u64.wrap (a0))) - 1)) - a1))) else (none)) else (some 0)))=some r:=h;clear h;replace H:=ob H;obtain ⟨A0,A30,H⟩:=H
 try dsimp only at H
 have A3:=Aside0.mk A30;clear A30
 by_cases c4:A0=true
 ·subst c4
  have H1:(if 0≤(IntKind.u64.wrap (a0)) then (some (wrap64 ((wrap64 ((shl .i64 1 (IntKind.u64.wrap (a0))) - 1)) - a1))) else (none))=some r:=by rw [if_pos rfl] at H;exact H
  clear H;have H:=H1;clear H1;obtain ⟨ji5,hji5⟩:∃ j_:Int,(IntKind.u64.wrap (a0))=j_:=⟨_,rfl⟩
  replace H:(if 0≤(ji5) then (some (wrap64 ((wrap64 ((shl .i64 1 (ji5)) - 1)) - a1))) else (none))=some r:=by first|(rw [hji5] at H;exact H)|(simp only [hji5] at H ⊢;exact H)
  (try rw [hji5] at A3)
  by_cases c6:0≤(ji5)
  ·rw [if_pos c6] at H;have c6b0:=eq_true c6;have c6b1:decide (0≤(ji5))=true:=decide_eq_true c6;clear c6;obtain ⟨ji7,hji7⟩:∃ j_:Int,(shl .i64 1 (ji5))=j_:=⟨_,rfl⟩
   replace H:(some (wrap64 ((wrap64 ((ji7) - 1)) - a1)))=some r:=by first|(rw [hji7] at H;exact H)|(simp only [hji7] at H ⊢;exact H)
   (try rw [hji7] at A3)
   have hji7_:(IntKind.i64.wrap (1 * 2 ^ min (ji5).toNat 64))=ji7:=hji7;have hji7z:(ji5)≤64→(IntKind.i64.wrap (1 * 2 ^ (ji5).toNat))=ji7:=shl_small hji7
   have hji7u:(IntKind.i64.wrap (2 ^ min (ji5).toNat 64))=ji7:=by have h_:=hji7_;rw [Int.one_mul] at h_;exact h_
   have hji7v:(ji5)≤64→(IntKind.i64.wrap (2 ^ (ji5).toNat))=ji7:=fun hle_=>by have h_:=hji7z hle_;rw [Int.one_mul] at h_;exact h_
   have hji7y:(wrap64 (1 * 2 ^ min (ji5).toNat 64))=ji7:=(i64_w _).symm.trans hji7_
   have hji7x:(ji5)≤64→(wrap64 (1 * 2 ^ (ji5).toNat))=ji7:=fun h_=>(i64_w _).symm.trans (hji7z h_)
   obtain rfl:=os H
   go_enter Tryz.func102,Tryz.ntmps102
   go_wp2_with (first|((with_reducible refine gate_callee (f:=95) rfl ?_);refine goesL_ (some 7) rfl rfl Tryz.func95 (by kernel_rfl) rfl #[.int .i64 a0,.int .i64 a1] rfl ml ?_;(with_reducible refine (impl_WordOk.calls a0 a1 true _ A3.out).mono ?_);rintro e w' ⟨rfl,⟨nd,rfl⟩⟩;refine ⟨_,rfl,?_⟩));go_ret;exact ⟨by first|rfl|(simp;done)|(simp only [← hji5,← hji7] <;> (first|rfl|simp))|(simp [*];done),by repeat (first|exact Drawn0.refl _|apply Drawn0.step)⟩
  ·rw [if_neg c6] at H;exact absurd H (by simp)
 ·replace c4:=Bool.eq_false_iff.mpr c4;subst c4
  have H1:(some 0)=some r:=by rw [if_neg (show ¬ (false=true) by decide)] at H;exact H
  clear H;have H:=H1;clear H1;obtain rfl:=os H
  go_enter Tryz.func102,Tryz.ntmps102
  go_wp2_with (first|((with_reducible refine gate_callee (f:=95) rfl ?_);refine goesL_ (some 7) rfl rfl Tryz.func95 (by kernel_rfl) rfl #[.int .i64 a0,.int .i64 a1] rfl ml ?_;(with_reducible refine (impl_WordOk.calls a0 a1 false _ A3.out).mono ?_);rintro e w' ⟨rfl,⟨nd,rfl⟩⟩;refine ⟨_,rfl,?_⟩));go_ret;exact ⟨e1,dn⟩
def impl_two.f (a0:Int) (a1:Int) (a2:Int):Option (Bool):=(impl_WordOk.f a0 a1).bind fun A1=>(if A1=true then ((impl_WordOk.f a0 a2).bind fun A0=>(some A0)) else (some false))
theorem impl_two.calls (a0:Int) (a1:Int) (a2:Int) (r:Bool) (w:World) (h:impl_two.f a0 a1 a2=some r) :
  Calls Tryz.prog 118 #[.int .i64 a0,.int .i64 a1,.int .i64 a2] w fun e w'=>e = .returned (.bool r)∧Drawn0 w w':=by
 have H:((impl_WordOk.f a0 a1).bind fun A1=>(if A1=true then ((impl_WordOk.f a0 a2).bind fun A0=>(some A0)) else (some false)))=some r:=h;clear h;replace H:=ob H;obtain ⟨A1,A40,H⟩:=H;replace H:(if A1=true then ((impl_WordOk.f a0 a2).bind fun A0=>(some A0)) else (some false))=some r:=H;have A4:=Aside0.mk A40;clear A40
 by_cases c5:A1=true
 ·subst c5
  have H1:((impl_WordOk.f a0 a2).bind fun A0=>(some A0))=some r:=by rw [if_pos rfl] at H;exact H
  clear H;have H:=H1;clear H1;replace H:=ob H;obtain ⟨A0,A60,H⟩:=H;replace H:(some A0)=some r:=H;have A6:=Aside0.mk A60;clear A60;obtain rfl:=os H
  go_enter Tryz.func118,Tryz.ntmps118
  go_wp2_with (first|((with_reducible refine gate_callee (f:=95) rfl ?_);refine goesL_ (some 9) rfl rfl Tryz.func95 (by kernel_rfl) rfl #[.int .i64 a0,.int .i64 a1] rfl ml ?_;(with_reducible refine (impl_WordOk.calls a0 a1 true _ A4.out).mono ?_);rintro e w' ⟨rfl,⟨nd,rfl⟩⟩;refine ⟨_,rfl,?_⟩)|(go_at_call 95;(try simp only [i64_w,i32_w]);(with_reducible refine (impl_WordOk.calls a0 a2 A0 _ A6.out).mono ?_);rintro e w' ⟨rfl,⟨nd,rfl⟩⟩));go_ret;exact ⟨e1,dn⟩
 ·replace c5:=Bool.eq_false_iff.mpr c5;subst c5
  have H1:(some false)=some r:=by rw [if_neg (show ¬ (false=true) by decide)] at H;exact H
  clear H;have H:=H1;clear H1;obtain rfl:=os H
  go_enter Tryz.func118,Tryz.ntmps118
  go_wp2_with (first|((with_reducible refine gate_callee (f:=95) rfl ?_);refine goesL_ (some 9) rfl rfl Tryz.func95 (by kernel_rfl) rfl #[.int .i64 a0,.int .i64 a1] rfl ml ?_;(with_reducible refine (impl_WordOk.calls a0 a1 false _ A4.out).mono ?_);rintro e w' ⟨rfl,⟨nd,rfl⟩⟩;refine ⟨_,rfl,?_⟩));go_ret;exact ⟨e1,dn⟩
def impl_Less.f (a0:Int) (a1:Int) (a2:Int):Option (Int):=(impl_two.f a0 a1 a2).bind fun A2=>(if A2=true then ((impl_bit.f (decide (a1 < a2))).bind fun A0=>(some A0)) else ((impl_bit.f false).bind fun A1=>(some A1)))
theorem impl_Less.calls (a0:Int) (a1:Int) (a2:Int) (r:Int) (w:World) (h:impl_Less.f a0 a1 a2=some r) :
  Calls Tryz.prog 104 #[.int .i64 a0,.int .i64 a1,.int .i64 a2] w fun e w'=>e = .returned (.int .i64 r)∧Drawn0 w w':=by
 have H:((impl_two.f a0 a1 a2).bind fun A2=>(if A2=true then ((impl_bit.f (decide (a1 < a2))).bind fun A0=>(some A0)) else ((impl_bit.f false).bind fun A1=>(some A1))))=some r:=h;clear h;replace H:=ob H;obtain ⟨A2,A40,H⟩:=H
 try dsimp only at H
 have A4:=Aside0.mk A40;clear A40
 by_cases c5:A2=true
 ·subst c5
  have H1:((impl_bit.f (decide (a1 < a2))).bind fun A0=>(some A0))=some r:=by rw [if_pos rfl] at H;exact H
  clear H;have H:=H1;clear H1;replace H:=ob H;obtain ⟨A0,A60,H⟩:=H;replace H:(some A0)=some r:=H;have A6:=Aside0.mk A60;clear A60;obtain rfl:=os H
  go_enter Tryz.func104,Tryz.ntmps104
  go_wp2_with (first|((with_reducible refine gate_callee (f:=118) rfl ?_);refine goesL_ (some 10) rfl rfl Tryz.func118 (by kernel_rfl) rfl #[.int .i64 a0,.int .i64 a1,.int .i64 a2] rfl ml ?_;(with_reducible refine (impl_two.calls a0 a1 a2 true _ A4.out).mono ?_);rintro e w' ⟨rfl,⟨nd,rfl⟩⟩;refine ⟨_,rfl,?_⟩)|((with_reducible refine gate_callee (f:=100) rfl ?_);refine goesL_ (some 16) rfl rfl Tryz.func100 (by kernel_rfl) rfl #[.bool (decide (a1 < a2))] rfl ml ?_;(with_reducible refine (impl_bit.calls (decide (a1 < a2)) A0 _ A6.out).mono ?_);rintro e w' ⟨rfl,⟨nd,rfl⟩⟩;refine ⟨_,rfl,?_⟩));go_ret;exact ⟨e1,dn⟩
 ·replace c5:=Bool.eq_false_iff.mpr c5;subst c5
  have H1:((impl_bit.f false).bind fun A1=>(some A1))=some r:=by rw [if_neg (show ¬ (false=true) by decide)] at H;exact H
  clear H;have H:=H1;clear H1;replace H:=ob H;obtain ⟨A1,A70,H⟩:=H;replace H:(some A1)=some r:=H;have A7:=Aside0.mk A70;clear A70;obtain rfl:=os H
  go_enter Tryz.func104,Tryz.ntmps104
  go_wp2_with (first|((with_reducible refine gate_callee (f:=118) rfl ?_);refine goesL_ (some 10) rfl rfl Tryz.func118 (by kernel_rfl) rfl #[.int .i64 a0,.int .i64 a1,.int .i64 a2] rfl ml ?_;(with_reducible refine (impl_two.calls a0 a1 a2 false _ A4.out).mono ?_);rintro e w' ⟨rfl,⟨nd,rfl⟩⟩;refine ⟨_,rfl,?_⟩)|((with_reducible refine gate_callee (f:=100) rfl ?_);refine goesL_ (some 16) rfl rfl Tryz.func100 (by kernel_rfl) rfl #[.bool false] rfl ml ?_;(with_reducible refine (impl_bit.calls false A1 _ A7.out).mono ?_);rintro e w' ⟨rfl,⟨nd,rfl⟩⟩;refine ⟨_,rfl,?_⟩));go_ret;exact ⟨e1,dn⟩
def impl_Signed.f (a0:Int) (a1:Int):Option (Int):=(impl_WordOk.f a0 a1).bind fun A0=>(if A0=true then (if 0≤(IntKind.u64.wrap (wrap64 (a0 - 1))) then (if a1 ≥ (shl .i64 1 (IntKind.u64.wrap (wrap64 (a0 - 1)))) then (if 0≤(IntKind.u64.wrap (a0)) then (some (wrap64 (a1 - (shl .i64 1 (IntKind.u64.wrap (a0)))))) else (none)) else (some a1)) else (none)) else (some 0))
theorem impl_Signed.calls (a0:Int) (a1:Int) (r:Int) (w:World) (h:impl_Signed.f a0 a1=some r) :
  Calls Tryz.prog 119 #[.int .i64 a0,.int .i64 a1] w fun e w'=>e = .returned (.int .i64 r)∧Drawn0 w w':=by
 have H:((impl_WordOk.f a0 a1).bind fun A0=>(if A0=true then (if 0≤(IntKind.u64.wrap (wrap64 (a0 - 1))) then (if a1 ≥ (shl .i64 1 (IntKind.u64.wrap (wrap64 (a0 - 1)))) then (if 0≤(IntKind.u64.wrap (a0)) then (some (wrap64 (a1 - (shl .i64 1 (IntKind.u64.wrap (a0)))))) else (none)) else (some a1)) else (none)) else (some 0)))=some r:=h;clear h;replace H:=ob H;obtain ⟨A0,A30,H⟩:=H
 try dsimp only at H
 have A3:=Aside0.mk A30;clear A30
 by_cases c4:A0=true
 ·subst c4
  have H1:(if 0≤(IntKind.u64.wrap (wrap64 (a0 - 1))) then (if a1 ≥ (shl .i64 1 (IntKind.u64.wrap (wrap64 (a0 - 1)))) then (if 0≤(IntKind.u64.wrap (a0)) then (some (wrap64 (a1 - (shl .i64 1 (IntKind.u64.wrap (a0)))))) else (none)) else (some a1)) else (none))=some r:=by rw [if_pos rfl] at H;exact H
  clear H;have H:=H1;clear H1;obtain ⟨ji5,hji5⟩:∃ j_:Int,(IntKind.u64.wrap (wrap64 (a0 - 1)))=j_:=⟨_,rfl⟩
  replace H:(if 0≤(ji5) then (if a1 ≥ (shl .i64 1 (ji5)) then (if 0≤(IntKind.u64.wrap (a0)) then (some (wrap64 (a1 - (shl .i64 1 (IntKind.u64.wrap (a0)))))) else (none)) else (some a1)) else (none))=some r:=by first|(rw [hji5] at H;exact H)|(simp only [hji5] at H ⊢;exact H)
  (try rw [hji5] at A3)
  by_cases c6:0≤(ji5)
  ·rw [if_pos c6] at H;have c6b0:=eq_true c6;have c6b1:decide (0≤(ji5))=true:=decide_eq_true c6;clear c6;obtain ⟨ji7,hji7⟩:∃ j_:Int,(shl .i64 1 (ji5))=j_:=⟨_,rfl⟩
   replace H:(if a1 ≥ (ji7) then (if 0≤(IntKind.u64.wrap (a0)) then (some (wrap64 (a1 - (shl .i64 1 (IntKind.u64.wrap (a0)))))) else (none)) else (some a1))=some r:=by first|(rw [hji7] at H;exact H)|(simp only [hji7] at H ⊢;exact H)
   (try rw [hji7] at A3)
   have hji7_:(IntKind.i64.wrap (1 * 2 ^ min (ji5).toNat 64))=ji7:=hji7;have hji7z:(ji5)≤64→(IntKind.i64.wrap (1 * 2 ^ (ji5).toNat))=ji7:=shl_small hji7
   have hji7u:(IntKind.i64.wrap (2 ^ min (ji5).toNat 64))=ji7:=by have h_:=hji7_;rw [Int.one_mul] at h_;exact h_
   have hji7v:(ji5)≤64→(IntKind.i64.wrap (2 ^ (ji5).toNat))=ji7:=fun hle_=>by have h_:=hji7z hle_;rw [Int.one_mul] at h_;exact h_
   have hji7y:(wrap64 (1 * 2 ^ min (ji5).toNat 64))=ji7:=(i64_w _).symm.trans hji7_
   have hji7x:(ji5)≤64→(wrap64 (1 * 2 ^ (ji5).toNat))=ji7:=fun h_=>(i64_w _).symm.trans (hji7z h_)
   by_cases c8:a1 ≥ (ji7)
   ·rw [if_pos c8] at H;have c8b0:decide ((ji7)≤a1)=true:=decide_eq_true c8;clear c8;obtain ⟨ji9,hji9⟩:∃ j_:Int,(IntKind.u64.wrap (a0))=j_:=⟨_,rfl⟩
    replace H:(if 0≤(ji9) then (some (wrap64 (a1 - (shl .i64 1 (ji9))))) else (none))=some r:=by first|(rw [hji9] at H;exact H)|(simp only [hji9] at H ⊢;exact H)
    (try rw [hji9] at A3)
    by_cases c10:0≤(ji9)
    ·rw [if_pos c10] at H;have c10b0:=eq_true c10;have c10b1:decide (0≤(ji9))=true:=decide_eq_true c10;clear c10;obtain ⟨ji11,hji11⟩:∃ j_:Int,(shl .i64 1 (ji9))=j_:=⟨_,rfl⟩
     replace H:(some (wrap64 (a1 - (ji11))))=some r:=by first|(rw [hji11] at H;exact H)|(simp only [hji11] at H ⊢;exact H)
     (try rw [hji11] at A3)
     have hji11_:(IntKind.i64.wrap (1 * 2 ^ min (ji9).toNat 64))=ji11:=hji11;have hji11z:(ji9)≤64→(IntKind.i64.wrap (1 * 2 ^ (ji9).toNat))=ji11:=shl_small hji11
     have hji11u:(IntKind.i64.wrap (2 ^ min (ji9).toNat 64))=ji11:=by have h_:=hji11_;rw [Int.one_mul] at h_;exact h_
     have hji11v:(ji9)≤64→(IntKind.i64.wrap (2 ^ (ji9).toNat))=ji11:=fun hle_=>by have h_:=hji11z hle_;rw [Int.one_mul] at h_;exact h_
     have hji11y:(wrap64 (1 * 2 ^ min (ji9).toNat 64))=ji11:=(i64_w _).symm.trans hji11_
     have hji11x:(ji9)≤64→(wrap64 (1 * 2 ^ (ji9).toNat))=ji11:=fun h_=>(i64_w _).symm.trans (hji11z h_)
     obtain rfl:=os H
     go_enter Tryz.func119,Tryz.ntmps119
     go_wp2_with (first|((with_reducible refine gate_callee (f:=95) rfl ?_);refine goesL_ (some 8) rfl rfl Tryz.func95 (by kernel_rfl) rfl #[.int .i64 a0,.int .i64 a1] rfl ml ?_;(with_reducible refine (impl_WordOk.calls a0 a1 true _ A3.out).mono ?_);rintro e w' ⟨rfl,⟨nd,rfl⟩⟩;refine ⟨_,rfl,?_⟩));go_ret;exact ⟨by first|rfl|(simp;done)|(simp only [← hji5,← hji7,← hji9,← hji11] <;> (first|rfl|simp))|(simp [*];done),by repeat (first|exact Drawn0.refl _|apply Drawn0.step)⟩
    ·rw [if_neg c10] at H;exact absurd H (by simp)
   ·rw [if_neg c8] at H;have c8b0:decide ((ji7)≤a1)=false:=decide_eq_false c8;clear c8;obtain rfl:=os H
    go_enter Tryz.func119,Tryz.ntmps119
    go_wp2_with (first|((with_reducible refine gate_callee (f:=95) rfl ?_);refine goesL_ (some 8) rfl rfl Tryz.func95 (by kernel_rfl) rfl #[.int .i64 a0,.int .i64 a1] rfl ml ?_;(with_reducible refine (impl_WordOk.calls a0 a1 true _ A3.out).mono ?_);rintro e w' ⟨rfl,⟨nd,rfl⟩⟩;refine ⟨_,rfl,?_⟩));go_ret;exact ⟨by first|rfl|(simp;done)|(simp only [← hji5,← hji7] <;> (first|rfl|simp))|(simp [*];done),by repeat (first|exact Drawn0.refl _|apply Drawn0.step)⟩
  ·rw [if_neg c6] at H;exact absurd H (by simp)
 ·replace c4:=Bool.eq_false_iff.mpr c4;subst c4
  have H1:(some 0)=some r:=by rw [if_neg (show ¬ (false=true) by decide)] at H;exact H
  clear H;have H:=H1;clear H1;obtain rfl:=os H
  go_enter Tryz.func119,Tryz.ntmps119
  go_wp2_with (first|((with_reducible refine gate_callee (f:=95) rfl ?_);refine goesL_ (some 8) rfl rfl Tryz.func95 (by kernel_rfl) rfl #[.int .i64 a0,.int .i64 a1] rfl ml ?_;(with_reducible refine (impl_WordOk.calls a0 a1 false _ A3.out).mono ?_);rintro e w' ⟨rfl,⟨nd,rfl⟩⟩;refine ⟨_,rfl,?_⟩));go_ret;exact ⟨e1,dn⟩
def impl_LessSigned.f (a0:Int) (a1:Int) (a2:Int):Option (Int):=(impl_two.f a0 a1 a2).bind fun A5=>(if A5=true then ((impl_Signed.f a0 a1).bind fun A2=>((impl_Signed.f a0 a2).bind fun A0=>((impl_bit.f (decide (A2 < A0))).bind fun A1=>(some A1)))) else ((impl_bit.f false).bind fun A3=>(some A3)))
theorem impl_LessSigned.calls (a0:Int) (a1:Int) (a2:Int) (r:Int) (w:World) (h:impl_LessSigned.f a0 a1 a2=some r) :
  Calls Tryz.prog 105 #[.int .i64 a0,.int .i64 a1,.int .i64 a2] w fun e w'=>e = .returned (.int .i64 r)∧Drawn0 w w':=by
 have H:((impl_two.f a0 a1 a2).bind fun A5=>(if A5=true then ((impl_Signed.f a0 a1).bind fun A2=>((impl_Signed.f a0 a2).bind fun A0=>((impl_bit.f (decide (A2 < A0))).bind fun A1=>(some A1)))) else ((impl_bit.f false).bind fun A3=>(some A3))))=some r:=h;clear h;replace H:=ob H;obtain ⟨A5,A40,H⟩:=H
 try dsimp only at H
 have A4:=Aside0.mk A40;clear A40
 by_cases c5:A5=true
 ·subst c5
  have H1:((impl_Signed.f a0 a1).bind fun A2=>((impl_Signed.f a0 a2).bind fun A0=>((impl_bit.f (decide (A2 < A0))).bind fun A1=>(some A1))))=some r:=by rw [if_pos rfl] at H;exact H
  clear H;have H:=H1;clear H1;replace H:=ob H;obtain ⟨A2,A60,H⟩:=H;replace H:((impl_Signed.f a0 a2).bind fun A0=>((impl_bit.f (decide (A2 < A0))).bind fun A1=>(some A1)))=some r:=H;have A6:=Aside0.mk A60;clear A60;replace H:=ob H;obtain ⟨A0,A70,H⟩:=H;replace H:((impl_bit.f (decide (A2 < A0))).bind fun A1=>(some A1))=some r:=H;have A7:=Aside0.mk A70;clear A70;replace H:=ob H;obtain ⟨A1,A80,H⟩:=H;replace H:(some A1)=some r:=H;have A8:=Aside0.mk A80;clear A80;obtain rfl:=os H
  go_enter Tryz.func105,Tryz.ntmps105
  go_wp2_with (first|((with_reducible refine gate_callee (f:=118) rfl ?_);refine goesL_ (some 10) rfl rfl Tryz.func118 (by kernel_rfl) rfl #[.int .i64 a0,.int .i64 a1,.int .i64 a2] rfl ml ?_;(with_reducible refine (impl_two.calls a0 a1 a2 true _ A4.out).mono ?_);rintro e w' ⟨rfl,⟨nd,rfl⟩⟩;refine ⟨_,rfl,?_⟩)|(go_at_call 119;(try simp only [i64_w,i32_w]);(with_reducible refine (impl_Signed.calls a0 a1 A2 _ A6.out).mono ?_);rintro e w' ⟨rfl,⟨nd,rfl⟩⟩)|(go_at_call 119;(try simp only [i64_w,i32_w]);(with_reducible refine (impl_Signed.calls a0 a2 A0 _ A7.out).mono ?_);rintro e w' ⟨rfl,⟨nd,rfl⟩⟩)|((with_reducible refine gate_callee (f:=100) rfl ?_);refine goesL_ (some 20) rfl rfl Tryz.func100 (by kernel_rfl) rfl #[.bool (decide (A2 < A0))] rfl ml ?_;(with_reducible refine (impl_bit.calls (decide (A2 < A0)) A1 _ A8.out).mono ?_);rintro e w' ⟨rfl,⟨nd,rfl⟩⟩;refine ⟨_,rfl,?_⟩));go_ret;exact ⟨e1,dn⟩
 ·replace c5:=Bool.eq_false_iff.mpr c5;subst c5
  have H1:((impl_bit.f false).bind fun A3=>(some A3))=some r:=by rw [if_neg (show ¬ (false=true) by decide)] at H;exact H
  clear H;have H:=H1;clear H1;replace H:=ob H;obtain ⟨A3,A90,H⟩:=H;replace H:(some A3)=some r:=H;have A9:=Aside0.mk A90;clear A90;obtain rfl:=os H
  go_enter Tryz.func105,Tryz.ntmps105
  go_wp2_with (first|((with_reducible refine gate_callee (f:=118) rfl ?_);refine goesL_ (some 10) rfl rfl Tryz.func118 (by kernel_rfl) rfl #[.int .i64 a0,.int .i64 a1,.int .i64 a2] rfl ml ?_;(with_reducible refine (impl_two.calls a0 a1 a2 false _ A4.out).mono ?_);rintro e w' ⟨rfl,⟨nd,rfl⟩⟩;refine ⟨_,rfl,?_⟩)|((with_reducible refine gate_callee (f:=100) rfl ?_);refine goesL_ (some 20) rfl rfl Tryz.func100 (by kernel_rfl) rfl #[.bool false] rfl ml ?_;(with_reducible refine (impl_bit.calls false A3 _ A9.out).mono ?_);rintro e w' ⟨rfl,⟨nd,rfl⟩⟩;refine ⟨_,rfl,?_⟩));go_ret;exact ⟨e1,dn⟩
def impl_cut.f (a0:Int) (a1:Int):Option (Int):=if 0≤(IntKind.u64.wrap (a0)) then (some (Go.bits .and .i64 a1 (wrap64 ((shl .i64 1 (IntKind.u64.wrap (a0))) - 1)))) else (none)
theorem impl_cut.calls (a0:Int) (a1:Int) (r:Int) (w:World) (h:impl_cut.f a0 a1=some r) :
  Calls Tryz.prog 61 #[.int .i64 a0,.int .i64 a1] w fun e w'=>e = .returned (.int .i64 r)∧Drawn0 w w':=by
 have H:(if 0≤(IntKind.u64.wrap (a0)) then (some (Go.bits .and .i64 a1 (wrap64 ((shl .i64 1 (IntKind.u64.wrap (a0))) - 1)))) else (none))=some r:=h;clear h;obtain ⟨ji3,hji3⟩:∃ j_:Int,(IntKind.u64.wrap (a0))=j_:=⟨_,rfl⟩
 replace H:(if 0≤(ji3) then (some (Go.bits .and .i64 a1 (wrap64 ((shl .i64 1 (ji3)) - 1)))) else (none))=some r:=by first|(rw [hji3] at H;exact H)|(simp only [hji3] at H ⊢;exact H)
 by_cases c4:0≤(ji3)
 ·rw [if_pos c4] at H;have c4b0:=eq_true c4;have c4b1:decide (0≤(ji3))=true:=decide_eq_true c4;clear c4;obtain ⟨ji5,hji5⟩:∃ j_:Int,(shl .i64 1 (ji3))=j_:=⟨_,rfl⟩
  replace H:(some (Go.bits .and .i64 a1 (wrap64 ((ji5) - 1))))=some r:=by first|(rw [hji5] at H;exact H)|(simp only [hji5] at H ⊢;exact H)
  have hji5_:(IntKind.i64.wrap (1 * 2 ^ min (ji3).toNat 64))=ji5:=hji5;have hji5z:(ji3)≤64→(IntKind.i64.wrap (1 * 2 ^ (ji3).toNat))=ji5:=shl_small hji5
  have hji5u:(IntKind.i64.wrap (2 ^ min (ji3).toNat 64))=ji5:=by have h_:=hji5_;rw [Int.one_mul] at h_;exact h_
  have hji5v:(ji3)≤64→(IntKind.i64.wrap (2 ^ (ji3).toNat))=ji5:=fun hle_=>by have h_:=hji5z hle_;rw [Int.one_mul] at h_;exact h_
  have hji5y:(wrap64 (1 * 2 ^ min (ji3).toNat 64))=ji5:=(i64_w _).symm.trans hji5_
  have hji5x:(ji3)≤64→(wrap64 (1 * 2 ^ (ji3).toNat))=ji5:=fun h_=>(i64_w _).symm.trans (hji5z h_)
  obtain rfl:=os H
  go_enter Tryz.func61,Tryz.ntmps61
  go_wp2;go_ret;exact ⟨by first|rfl|(simp;done)|(simp only [← hji3,← hji5] <;> (first|rfl|simp))|(simp [*];done),by repeat (first|exact Drawn0.refl _|apply Drawn0.step)⟩
 ·rw [if_neg c4] at H;exact absurd H (by simp)
def impl_Slice.f (a0:Int) (a1:Int) (a2:Int) (a3:Int):Option (Int):=(impl_WordOk.f a0 a1).bind fun A3=>(if A3=true then ((impl_within.f a3 1 a0).bind fun A2=>(if A2=true then ((impl_within.f a2 0 (wrap64 (a0 - a3))).bind fun A1=>(if A1=true then (if 0≤(IntKind.u64.wrap (a2)) then ((impl_cut.f a3 (shr .i64 a1 (IntKind.u64.wrap (a2)))).bind fun A0=>(some A0)) else (none)) else (some 0))) else (some 0))) else (some 0))
theorem impl_Slice.calls (a0:Int) (a1:Int) (a2:Int) (a3:Int) (r:Int) (w:World) (h:impl_Slice.f a0 a1 a2 a3=some r) :
  Calls Tryz.prog 106 #[.int .i64 a0,.int .i64 a1,.int .i64 a2,.int .i64 a3] w fun e w'=>e = .returned (.int .i64 r)∧Drawn0 w w':=by
 have H:((impl_WordOk.f a0 a1).bind fun A3=>(if A3=true then ((impl_within.f a3 1 a0).bind fun A2=>(if A2=true then ((impl_within.f a2 0 (wrap64 (a0 - a3))).bind fun A1=>(if A1=true then (if 0≤(IntKind.u64.wrap (a2)) then ((impl_cut.f a3 (shr .i64 a1 (IntKind.u64.wrap (a2)))).bind fun A0=>(some A0)) else (none)) else (some 0))) else (some 0))) else (some 0)))=some r:=h;clear h;replace H:=ob H;obtain ⟨A3,A50,H⟩:=H
 try dsimp only at H
 have A5:=Aside0.mk A50;clear A50
 by_cases c6:A3=true
 ·subst c6
  have H1:((impl_within.f a3 1 a0).bind fun A2=>(if A2=true then ((impl_within.f a2 0 (wrap64 (a0 - a3))).bind fun A1=>(if A1=true then (if 0≤(IntKind.u64.wrap (a2)) then ((impl_cut.f a3 (shr .i64 a1 (IntKind.u64.wrap (a2)))).bind fun A0=>(some A0)) else (none)) else (some 0))) else (some 0)))=some r:=by rw [if_pos rfl] at H;exact H
  clear H;have H:=H1;clear H1;replace H:=ob H;obtain ⟨A2,A70,H⟩:=H
  try dsimp only at H
  have A7:=Aside0.mk A70;clear A70
  by_cases c8:A2=true
  ·subst c8
   have H1:((impl_within.f a2 0 (wrap64 (a0 - a3))).bind fun A1=>(if A1=true then (if 0≤(IntKind.u64.wrap (a2)) then ((impl_cut.f a3 (shr .i64 a1 (IntKind.u64.wrap (a2)))).bind fun A0=>(some A0)) else (none)) else (some 0)))=some r:=by rw [if_pos rfl] at H;exact H
   clear H;have H:=H1;clear H1;replace H:=ob H;obtain ⟨A1,A90,H⟩:=H
   try dsimp only at H
   have A9:=Aside0.mk A90;clear A90
   by_cases c10:A1=true
   ·subst c10
    have H1:(if 0≤(IntKind.u64.wrap (a2)) then ((impl_cut.f a3 (shr .i64 a1 (IntKind.u64.wrap (a2)))).bind fun A0=>(some A0)) else (none))=some r:=by rw [if_pos rfl] at H;exact H
    clear H;have H:=H1;clear H1;obtain ⟨ji11,hji11⟩:∃ j_:Int,(IntKind.u64.wrap (a2))=j_:=⟨_,rfl⟩
    replace H:(if 0≤(ji11) then ((impl_cut.f a3 (shr .i64 a1 (ji11))).bind fun A0=>(some A0)) else (none))=some r:=by first|(rw [hji11] at H;exact H)|(simp only [hji11] at H ⊢;exact H)
    (try rw [hji11] at A5)
    (try rw [hji11] at A7)
    (try rw [hji11] at A9)
    by_cases c12:0≤(ji11)
    ·rw [if_pos c12] at H;have c12b0:=eq_true c12;have c12b1:decide (0≤(ji11))=true:=decide_eq_true c12;clear c12;obtain ⟨ji13,hji13⟩:∃ j_:Int,(shr .i64 a1 (ji11))=j_:=⟨_,rfl⟩
     replace H:((impl_cut.f a3 (ji13)).bind fun A0=>(some A0))=some r:=by first|(rw [hji13] at H;exact H)|(simp only [hji13] at H ⊢;exact H)
     (try rw [hji13] at A5)
     (try rw [hji13] at A7)
     (try rw [hji13] at A9)
     have hji13_:(a1 / 2 ^ min (ji11).toNat 64)=ji13:=hji13;have hji13z:(ji11)≤64→(a1 / 2 ^ (ji11).toNat)=ji13:=shr_small hji13;replace H:=ob H;obtain ⟨A0,A140,H⟩:=H;replace H:(some A0)=some r:=H;have A14:=Aside0.mk A140;clear A140;obtain rfl:=os H
     go_enter Tryz.func106,Tryz.ntmps106
     go_wp2_with (first|((with_reducible refine gate_callee (f:=95) rfl ?_);refine goesL_ (some 11) rfl rfl Tryz.func95 (by kernel_rfl) rfl #[.int .i64 a0,.int .i64 a1] rfl ml ?_;(with_reducible refine (impl_WordOk.calls a0 a1 true _ A5.out).mono ?_);rintro e w' ⟨rfl,⟨nd,rfl⟩⟩;refine ⟨_,rfl,?_⟩)|(go_at_call 75;(try simp only [i64_w,i32_w]);(with_reducible refine (impl_within.calls a3 1 a0 true _ A7.out).mono ?_);rintro e w' ⟨rfl,⟨nd,rfl⟩⟩)|(go_at_call 75;(try simp only [i64_w,i32_w]);(with_reducible refine (impl_within.calls a2 0 (wrap64 (a0 - a3)) true _ A9.out).mono ?_);rintro e w' ⟨rfl,⟨nd,rfl⟩⟩)|((with_reducible refine gate_callee (f:=61) rfl ?_);refine goesL_ (some 32) rfl rfl Tryz.func61 (by kernel_rfl) rfl #[.int .i64 a3,.int .i64 ji13] rfl (by (try simp only [List.map_toArray,List.map_cons,List.map_nil]);first|done|(simp only [hji13];rfl)|rfl|(simp only [List.length_drop,List.length_take];rfl)) ?_;(with_reducible refine (impl_cut.calls a3 ji13 A0 _ A14.out).mono ?_);rintro e w' ⟨rfl,⟨nd,rfl⟩⟩;refine ⟨_,rfl,?_⟩));go_ret;exact ⟨by first|rfl|(simp;done)|(simp only [← hji11,← hji13] <;> (first|rfl|simp))|(simp [*];done),by repeat (first|exact Drawn0.refl _|apply Drawn0.step)⟩
    ·rw [if_neg c12] at H;exact absurd H (by simp)
   ·replace c10:=Bool.eq_false_iff.mpr c10;subst c10
    have H1:(some 0)=some r:=by rw [if_neg (show ¬ (false=true) by decide)] at H;exact H
    clear H;have H:=H1;clear H1;obtain rfl:=os H
    go_enter Tryz.func106,Tryz.ntmps106
    go_wp2_with (first|((with_reducible refine gate_callee (f:=95) rfl ?_);refine goesL_ (some 11) rfl rfl Tryz.func95 (by kernel_rfl) rfl #[.int .i64 a0,.int .i64 a1] rfl ml ?_;(with_reducible refine (impl_WordOk.calls a0 a1 true _ A5.out).mono ?_);rintro e w' ⟨rfl,⟨nd,rfl⟩⟩;refine ⟨_,rfl,?_⟩)|(go_at_call 75;(try simp only [i64_w,i32_w]);(with_reducible refine (impl_within.calls a3 1 a0 true _ A7.out).mono ?_);rintro e w' ⟨rfl,⟨nd,rfl⟩⟩)|(go_at_call 75;(try simp only [i64_w,i32_w]);(with_reducible refine (impl_within.calls a2 0 (wrap64 (a0 - a3)) false _ A9.out).mono ?_);rintro e w' ⟨rfl,⟨nd,rfl⟩⟩));go_ret;exact ⟨e1,dn⟩
  ·replace c8:=Bool.eq_false_iff.mpr c8;subst c8
   have H1:(some 0)=some r:=by rw [if_neg (show ¬ (false=true) by decide)] at H;exact H
   clear H;have H:=H1;clear H1;obtain rfl:=os H
   go_enter Tryz.func106,Tryz.ntmps106
   go_wp2_with (first|((with_reducible refine gate_callee (f:=95) rfl ?_);refine goesL_ (some 11) rfl rfl Tryz.func95 (by kernel_rfl) rfl #[.int .i64 a0,.int .i64 a1] rfl ml ?_;(with_reducible refine (impl_WordOk.calls a0 a1 true _ A5.out).mono ?_);rintro e w' ⟨rfl,⟨nd,rfl⟩⟩;refine ⟨_,rfl,?_⟩)|(go_at_call 75;(try simp only [i64_w,i32_w]);(with_reducible refine (impl_within.calls a3 1 a0 false _ A7.out).mono ?_);rintro e w' ⟨rfl,⟨nd,rfl⟩⟩));go_ret;exact ⟨e1,dn⟩
 ·replace c6:=Bool.eq_false_iff.mpr c6;subst c6
  have H1:(some 0)=some r:=by rw [if_neg (show ¬ (false=true) by decide)] at H;exact H
  clear H;have H:=H1;clear H1;obtain rfl:=os H
  go_enter Tryz.func106,Tryz.ntmps106
  go_wp2_with (first|((with_reducible refine gate_callee (f:=95) rfl ?_);refine goesL_ (some 11) rfl rfl Tryz.func95 (by kernel_rfl) rfl #[.int .i64 a0,.int .i64 a1] rfl ml ?_;(with_reducible refine (impl_WordOk.calls a0 a1 false _ A5.out).mono ?_);rintro e w' ⟨rfl,⟨nd,rfl⟩⟩;refine ⟨_,rfl,?_⟩));go_ret;exact ⟨e1,dn⟩
def impl_Add.f (a0:Int) (a1:Int) (a2:Int):Option (Int):=(impl_two.f a0 a1 a2).bind fun A1=>(if A1=true then ((impl_cut.f a0 (wrap64 (a1 + a2))).bind fun A0=>(some A0)) else (some 0))
theorem impl_Add.calls (a0:Int) (a1:Int) (a2:Int) (r:Int) (w:World) (h:impl_Add.f a0 a1 a2=some r) :
  Calls Tryz.prog 111 #[.int .i64 a0,.int .i64 a1,.int .i64 a2] w fun e w'=>e = .returned (.int .i64 r)∧Drawn0 w w':=by
 have H:((impl_two.f a0 a1 a2).bind fun A1=>(if A1=true then ((impl_cut.f a0 (wrap64 (a1 + a2))).bind fun A0=>(some A0)) else (some 0)))=some r:=h;clear h;replace H:=ob H;obtain ⟨A1,A40,H⟩:=H;replace H:(if A1=true then ((impl_cut.f a0 (wrap64 (a1 + a2))).bind fun A0=>(some A0)) else (some 0))=some r:=H;have A4:=Aside0.mk A40;clear A40
 by_cases c5:A1=true
 ·subst c5
  have H1:((impl_cut.f a0 (wrap64 (a1 + a2))).bind fun A0=>(some A0))=some r:=by rw [if_pos rfl] at H;exact H
  clear H;have H:=H1;clear H1;replace H:=ob H;obtain ⟨A0,A60,H⟩:=H;replace H:(some A0)=some r:=H;have A6:=Aside0.mk A60;clear A60;obtain rfl:=os H
  go_enter Tryz.func111,Tryz.ntmps111
  go_wp2_with (first|((with_reducible refine gate_callee (f:=118) rfl ?_);refine goesL_ (some 10) rfl rfl Tryz.func118 (by kernel_rfl) rfl #[.int .i64 a0,.int .i64 a1,.int .i64 a2] rfl ml ?_;(with_reducible refine (impl_two.calls a0 a1 a2 true _ A4.out).mono ?_);rintro e w' ⟨rfl,⟨nd,rfl⟩⟩;refine ⟨_,rfl,?_⟩)|((with_reducible refine gate_callee (f:=61) rfl ?_);refine goesL_ (some 16) rfl rfl Tryz.func61 (by kernel_rfl) rfl #[.int .i64 a0,.int .i64 (wrap64 (a1 + a2))] rfl ml ?_;(with_reducible refine (impl_cut.calls a0 (wrap64 (a1 + a2)) A0 _ A6.out).mono ?_);rintro e w' ⟨rfl,⟨nd,rfl⟩⟩;refine ⟨_,rfl,?_⟩));go_ret;exact ⟨e1,dn⟩
 ·replace c5:=Bool.eq_false_iff.mpr c5;subst c5
  have H1:(some 0)=some r:=by rw [if_neg (show ¬ (false=true) by decide)] at H;exact H
  clear H;have H:=H1;clear H1;obtain rfl:=os H
  go_enter Tryz.func111,Tryz.ntmps111
  go_wp2_with (first|((with_reducible refine gate_callee (f:=118) rfl ?_);refine goesL_ (some 10) rfl rfl Tryz.func118 (by kernel_rfl) rfl #[.int .i64 a0,.int .i64 a1,.int .i64 a2] rfl ml ?_;(with_reducible refine (impl_two.calls a0 a1 a2 false _ A4.out).mono ?_);rintro e w' ⟨rfl,⟨nd,rfl⟩⟩;refine ⟨_,rfl,?_⟩));go_ret;exact ⟨e1,dn⟩
def impl_Div.f (a0:Int) (a1:Int) (a2:Int):Option (Int):=(impl_two.f a0 a1 a2).bind fun A0=>(if A0=true then (if a2=0 then (if 0≤(IntKind.u64.wrap (a0)) then (some (wrap64 ((shl .i64 1 (IntKind.u64.wrap (a0))) - 1))) else (none)) else (some (wrap64 (Int.tdiv a1 a2)))) else (some 0))
theorem impl_Div.calls (a0:Int) (a1:Int) (a2:Int) (r:Int) (w:World) (h:impl_Div.f a0 a1 a2=some r) :
  Calls Tryz.prog 114 #[.int .i64 a0,.int .i64 a1,.int .i64 a2] w fun e w'=>e = .returned (.int .i64 r)∧Drawn0 w w':=by
 have H:((impl_two.f a0 a1 a2).bind fun A0=>(if A0=true then (if a2=0 then (if 0≤(IntKind.u64.wrap (a0)) then (some (wrap64 ((shl .i64 1 (IntKind.u64.wrap (a0))) - 1))) else (none)) else (some (wrap64 (Int.tdiv a1 a2)))) else (some 0)))=some r:=h;clear h;replace H:=ob H;obtain ⟨A0,A40,H⟩:=H
 try dsimp only at H
 have A4:=Aside0.mk A40;clear A40
 by_cases c5:A0=true
 ·subst c5
  have H1:(if a2=0 then (if 0≤(IntKind.u64.wrap (a0)) then (some (wrap64 ((shl .i64 1 (IntKind.u64.wrap (a0))) - 1))) else (none)) else (some (wrap64 (Int.tdiv a1 a2))))=some r:=by rw [if_pos rfl] at H;exact H
  clear H;have H:=H1;clear H1
  by_cases c6:a2=0
  ·rw [if_pos c6] at H;have c6b0:(a2 == 0)=true:=beq_iff_eq.mpr c6;have c6b1:(a2 != 0)=false:=bne_eq_false_iff_eq.mpr c6;clear c6;obtain ⟨ji7,hji7⟩:∃ j_:Int,(IntKind.u64.wrap (a0))=j_:=⟨_,rfl⟩
   replace H:(if 0≤(ji7) then (some (wrap64 ((shl .i64 1 (ji7)) - 1))) else (none))=some r:=by first|(rw [hji7] at H;exact H)|(simp only [hji7] at H ⊢;exact H)
   (try rw [hji7] at A4)
   by_cases c8:0≤(ji7)
   ·rw [if_pos c8] at H;have c8b0:=eq_true c8;have c8b1:decide (0≤(ji7))=true:=decide_eq_true c8;clear c8;obtain ⟨ji9,hji9⟩:∃ j_:Int,(shl .i64 1 (ji7))=j_:=⟨_,rfl⟩
    replace H:(some (wrap64 ((ji9) - 1)))=some r:=by first|(rw [hji9] at H;exact H)|(simp only [hji9] at H ⊢;exact H)
    (try rw [hji9] at A4)
    have hji9_:(IntKind.i64.wrap (1 * 2 ^ min (ji7).toNat 64))=ji9:=hji9;have hji9z:(ji7)≤64→(IntKind.i64.wrap (1 * 2 ^ (ji7).toNat))=ji9:=shl_small hji9
    have hji9u:(IntKind.i64.wrap (2 ^ min (ji7).toNat 64))=ji9:=by have h_:=hji9_;rw [Int.one_mul] at h_;exact h_
    have hji9v:(ji7)≤64→(IntKind.i64.wrap (2 ^ (ji7).toNat))=ji9:=fun hle_=>by have h_:=hji9z hle_;rw [Int.one_mul] at h_;exact h_
    have hji9y:(wrap64 (1 * 2 ^ min (ji7).toNat 64))=ji9:=(i64_w _).symm.trans hji9_
    have hji9x:(ji7)≤64→(wrap64 (1 * 2 ^ (ji7).toNat))=ji9:=fun h_=>(i64_w _).symm.trans (hji9z h_)
    obtain rfl:=os H
    go_enter Tryz.func114,Tryz.ntmps114
    go_wp2_with (first|((with_reducible refine gate_callee (f:=118) rfl ?_);refine goesL_ (some 11) rfl rfl Tryz.func118 (by kernel_rfl) rfl #[.int .i64 a0,.int .i64 a1,.int .i64 a2] rfl ml ?_;(with_reducible refine (impl_two.calls a0 a1 a2 true _ A4.out).mono ?_);rintro e w' ⟨rfl,⟨nd,rfl⟩⟩;refine ⟨_,rfl,?_⟩));go_ret;exact ⟨by first|rfl|(simp;done)|(simp only [← hji7,← hji9] <;> (first|rfl|simp))|(simp [*];done),by repeat (first|exact Drawn0.refl _|apply Drawn0.step)⟩
   ·rw [if_neg c8] at H;exact absurd H (by simp)
  ·rw [if_neg c6] at H;have c6b0:(a2 == 0)=false:=beq_eq_false_iff_ne.mpr c6;have c6b1:(a2 != 0)=true:=bne_iff_ne.mpr c6;obtain rfl:=os H
   go_enter Tryz.func114,Tryz.ntmps114
   go_wp2_with (first|((with_reducible refine gate_callee (f:=118) rfl ?_);refine goesL_ (some 11) rfl rfl Tryz.func118 (by kernel_rfl) rfl #[.int .i64 a0,.int .i64 a1,.int .i64 a2] rfl ml ?_;(with_reducible refine (impl_two.calls a0 a1 a2 true _ A4.out).mono ?_);rintro e w' ⟨rfl,⟨nd,rfl⟩⟩;refine ⟨_,rfl,?_⟩));go_ret;exact ⟨e1,dn⟩
 ·replace c5:=Bool.eq_false_iff.mpr c5;subst c5
  have H1:(some 0)=some r:=by rw [if_neg (show ¬ (false=true) by decide)] at H;exact H
  clear H;have H:=H1;clear H1;obtain rfl:=os H
  go_enter Tryz.func114,Tryz.ntmps114
  go_wp2_with (first|((with_reducible refine gate_callee (f:=118) rfl ?_);refine goesL_ (some 11) rfl rfl Tryz.func118 (by kernel_rfl) rfl #[.int .i64 a0,.int .i64 a1,.int .i64 a2] rfl ml ?_;(with_reducible refine (impl_two.calls a0 a1 a2 false _ A4.out).mono ?_);rintro e w' ⟨rfl,⟨nd,rfl⟩⟩;refine ⟨_,rfl,?_⟩));go_ret;exact ⟨e1,dn⟩
def impl_Mul.f (a0:Int) (a1:Int) (a2:Int):Option (Int):=(impl_two.f a0 a1 a2).bind fun A1=>(if A1=true then ((impl_cut.f a0 (wrap64 (a1 * a2))).bind fun A0=>(some A0)) else (some 0))
theorem impl_Mul.calls (a0:Int) (a1:Int) (a2:Int) (r:Int) (w:World) (h:impl_Mul.f a0 a1 a2=some r) :
  Calls Tryz.prog 113 #[.int .i64 a0,.int .i64 a1,.int .i64 a2] w fun e w'=>e = .returned (.int .i64 r)∧Drawn0 w w':=by
 have H:((impl_two.f a0 a1 a2).bind fun A1=>(if A1=true then ((impl_cut.f a0 (wrap64 (a1 * a2))).bind fun A0=>(some A0)) else (some 0)))=some r:=h;clear h;replace H:=ob H;obtain ⟨A1,A40,H⟩:=H;replace H:(if A1=true then ((impl_cut.f a0 (wrap64 (a1 * a2))).bind fun A0=>(some A0)) else (some 0))=some r:=H;have A4:=Aside0.mk A40;clear A40
 by_cases c5:A1=true
 ·subst c5
  have H1:((impl_cut.f a0 (wrap64 (a1 * a2))).bind fun A0=>(some A0))=some r:=by rw [if_pos rfl] at H;exact H
  clear H;have H:=H1;clear H1;replace H:=ob H;obtain ⟨A0,A60,H⟩:=H;replace H:(some A0)=some r:=H;have A6:=Aside0.mk A60;clear A60;obtain rfl:=os H
  go_enter Tryz.func113,Tryz.ntmps113
  go_wp2_with (first|((with_reducible refine gate_callee (f:=118) rfl ?_);refine goesL_ (some 10) rfl rfl Tryz.func118 (by kernel_rfl) rfl #[.int .i64 a0,.int .i64 a1,.int .i64 a2] rfl ml ?_;(with_reducible refine (impl_two.calls a0 a1 a2 true _ A4.out).mono ?_);rintro e w' ⟨rfl,⟨nd,rfl⟩⟩;refine ⟨_,rfl,?_⟩)|((with_reducible refine gate_callee (f:=61) rfl ?_);refine goesL_ (some 16) rfl rfl Tryz.func61 (by kernel_rfl) rfl #[.int .i64 a0,.int .i64 (wrap64 (a1 * a2))] rfl ml ?_;(with_reducible refine (impl_cut.calls a0 (wrap64 (a1 * a2)) A0 _ A6.out).mono ?_);rintro e w' ⟨rfl,⟨nd,rfl⟩⟩;refine ⟨_,rfl,?_⟩));go_ret;exact ⟨e1,dn⟩
 ·replace c5:=Bool.eq_false_iff.mpr c5;subst c5
  have H1:(some 0)=some r:=by rw [if_neg (show ¬ (false=true) by decide)] at H;exact H
  clear H;have H:=H1;clear H1;obtain rfl:=os H
  go_enter Tryz.func113,Tryz.ntmps113
  go_wp2_with (first|((with_reducible refine gate_callee (f:=118) rfl ?_);refine goesL_ (some 10) rfl rfl Tryz.func118 (by kernel_rfl) rfl #[.int .i64 a0,.int .i64 a1,.int .i64 a2] rfl ml ?_;(with_reducible refine (impl_two.calls a0 a1 a2 false _ A4.out).mono ?_);rintro e w' ⟨rfl,⟨nd,rfl⟩⟩;refine ⟨_,rfl,?_⟩));go_ret;exact ⟨e1,dn⟩
def impl_Rem.f (a0:Int) (a1:Int) (a2:Int):Option (Int):=(impl_two.f a0 a1 a2).bind fun A0=>(if A0=true then (if a2=0 then (some a1) else (some (Int.tmod a1 a2))) else (some 0))
theorem impl_Rem.calls (a0:Int) (a1:Int) (a2:Int) (r:Int) (w:World) (h:impl_Rem.f a0 a1 a2=some r) :
  Calls Tryz.prog 115 #[.int .i64 a0,.int .i64 a1,.int .i64 a2] w fun e w'=>e = .returned (.int .i64 r)∧Drawn0 w w':=by
 have H:((impl_two.f a0 a1 a2).bind fun A0=>(if A0=true then (if a2=0 then (some a1) else (some (Int.tmod a1 a2))) else (some 0)))=some r:=h;clear h;replace H:=ob H;obtain ⟨A0,A40,H⟩:=H;replace H:(if A0=true then (if a2=0 then (some a1) else (some (Int.tmod a1 a2))) else (some 0))=some r:=H;have A4:=Aside0.mk A40;clear A40
 by_cases c5:A0=true
 ·subst c5
  have H1:(if a2=0 then (some a1) else (some (Int.tmod a1 a2)))=some r:=by rw [if_pos rfl] at H;exact H
  clear H;have H:=H1;clear H1
  by_cases c6:a2=0
  ·rw [if_pos c6] at H;have c6b0:(a2 == 0)=true:=beq_iff_eq.mpr c6;have c6b1:(a2 != 0)=false:=bne_eq_false_iff_eq.mpr c6;clear c6;obtain rfl:=os H
   go_enter Tryz.func115,Tryz.ntmps115
   go_wp2_with (first|((with_reducible refine gate_callee (f:=118) rfl ?_);refine goesL_ (some 11) rfl rfl Tryz.func118 (by kernel_rfl) rfl #[.int .i64 a0,.int .i64 a1,.int .i64 a2] rfl ml ?_;(with_reducible refine (impl_two.calls a0 a1 a2 true _ A4.out).mono ?_);rintro e w' ⟨rfl,⟨nd,rfl⟩⟩;refine ⟨_,rfl,?_⟩));go_ret;exact ⟨e1,dn⟩
  ·rw [if_neg c6] at H;have c6b0:(a2 == 0)=false:=beq_eq_false_iff_ne.mpr c6;have c6b1:(a2 != 0)=true:=bne_iff_ne.mpr c6;obtain rfl:=os H
   go_enter Tryz.func115,Tryz.ntmps115
   go_wp2_with (first|((with_reducible refine gate_callee (f:=118) rfl ?_);refine goesL_ (some 11) rfl rfl Tryz.func118 (by kernel_rfl) rfl #[.int .i64 a0,.int .i64 a1,.int .i64 a2] rfl ml ?_;(with_reducible refine (impl_two.calls a0 a1 a2 true _ A4.out).mono ?_);rintro e w' ⟨rfl,⟨nd,rfl⟩⟩;refine ⟨_,rfl,?_⟩));go_ret;exact ⟨e1,dn⟩
 ·replace c5:=Bool.eq_false_iff.mpr c5;subst c5
  have H1:(some 0)=some r:=by rw [if_neg (show ¬ (false=true) by decide)] at H;exact H
  clear H;have H:=H1;clear H1;obtain rfl:=os H
  go_enter Tryz.func115,Tryz.ntmps115
  go_wp2_with (first|((with_reducible refine gate_callee (f:=118) rfl ?_);refine goesL_ (some 11) rfl rfl Tryz.func118 (by kernel_rfl) rfl #[.int .i64 a0,.int .i64 a1,.int .i64 a2] rfl ml ?_;(with_reducible refine (impl_two.calls a0 a1 a2 false _ A4.out).mono ?_);rintro e w' ⟨rfl,⟨nd,rfl⟩⟩;refine ⟨_,rfl,?_⟩));go_ret;exact ⟨e1,dn⟩
def impl_Shl.f (a0:Int) (a1:Int) (a2:Int):Option (Int):=(impl_two.f a0 a1 a2).bind fun A1=>(if A1=true then (if a2 ≥ a0 then (some 0) else (if 0≤(IntKind.u64.wrap (a2)) then ((impl_cut.f a0 (shl .i64 a1 (IntKind.u64.wrap (a2)))).bind fun A0=>(some A0)) else (none))) else (some 0))
theorem impl_Shl.calls (a0:Int) (a1:Int) (a2:Int) (r:Int) (w:World) (h:impl_Shl.f a0 a1 a2=some r) :
  Calls Tryz.prog 116 #[.int .i64 a0,.int .i64 a1,.int .i64 a2] w fun e w'=>e = .returned (.int .i64 r)∧Drawn0 w w':=by
 have H:((impl_two.f a0 a1 a2).bind fun A1=>(if A1=true then (if a2 ≥ a0 then (some 0) else (if 0≤(IntKind.u64.wrap (a2)) then ((impl_cut.f a0 (shl .i64 a1 (IntKind.u64.wrap (a2)))).bind fun A0=>(some A0)) else (none))) else (some 0)))=some r:=h;clear h;replace H:=ob H;obtain ⟨A1,A40,H⟩:=H
 try dsimp only at H
 have A4:=Aside0.mk A40;clear A40
 by_cases c5:A1=true
 ·subst c5
  have H1:(if a2 ≥ a0 then (some 0) else (if 0≤(IntKind.u64.wrap (a2)) then ((impl_cut.f a0 (shl .i64 a1 (IntKind.u64.wrap (a2)))).bind fun A0=>(some A0)) else (none)))=some r:=by rw [if_pos rfl] at H;exact H
  clear H;have H:=H1;clear H1
  by_cases c6:a2 ≥ a0
  ·rw [if_pos c6] at H;have c6b0:decide (a0≤a2)=true:=decide_eq_true c6;clear c6;obtain rfl:=os H
   go_enter Tryz.func116,Tryz.ntmps116
   go_wp2_with (first|((with_reducible refine gate_callee (f:=118) rfl ?_);refine goesL_ (some 10) rfl rfl Tryz.func118 (by kernel_rfl) rfl #[.int .i64 a0,.int .i64 a1,.int .i64 a2] rfl ml ?_;(with_reducible refine (impl_two.calls a0 a1 a2 true _ A4.out).mono ?_);rintro e w' ⟨rfl,⟨nd,rfl⟩⟩;refine ⟨_,rfl,?_⟩));go_ret;exact ⟨e1,dn⟩
  ·rw [if_neg c6] at H;have c6b0:decide (a0≤a2)=false:=decide_eq_false c6;clear c6;obtain ⟨ji7,hji7⟩:∃ j_:Int,(IntKind.u64.wrap (a2))=j_:=⟨_,rfl⟩
   replace H:(if 0≤(ji7) then ((impl_cut.f a0 (shl .i64 a1 (ji7))).bind fun A0=>(some A0)) else (none))=some r:=by first|(rw [hji7] at H;exact H)|(simp only [hji7] at H ⊢;exact H)
   (try rw [hji7] at A4)
   by_cases c8:0≤(ji7)
   ·rw [if_pos c8] at H;have c8b0:=eq_true c8;have c8b1:decide (0≤(ji7))=true:=decide_eq_true c8;clear c8;obtain ⟨ji9,hji9⟩:∃ j_:Int,(shl .i64 a1 (ji7))=j_:=⟨_,rfl⟩
    replace H:((impl_cut.f a0 (ji9)).bind fun A0=>(some A0))=some r:=by first|(rw [hji9] at H;exact H)|(simp only [hji9] at H ⊢;exact H)
    (try rw [hji9] at A4)
    have hji9_:(IntKind.i64.wrap (a1 * 2 ^ min (ji7).toNat 64))=ji9:=hji9;have hji9z:(ji7)≤64→(IntKind.i64.wrap (a1 * 2 ^ (ji7).toNat))=ji9:=shl_small hji9;have hji9y:(wrap64 (a1 * 2 ^ min (ji7).toNat 64))=ji9:=(i64_w _).symm.trans hji9_
    have hji9x:(ji7)≤64→(wrap64 (a1 * 2 ^ (ji7).toNat))=ji9:=fun h_=>(i64_w _).symm.trans (hji9z h_)
    replace H:=ob H;obtain ⟨A0,A100,H⟩:=H;replace H:(some A0)=some r:=H;have A10:=Aside0.mk A100;clear A100;obtain rfl:=os H
    go_enter Tryz.func116,Tryz.ntmps116
    go_wp2_with (first|((with_reducible refine gate_callee (f:=118) rfl ?_);refine goesL_ (some 10) rfl rfl Tryz.func118 (by kernel_rfl) rfl #[.int .i64 a0,.int .i64 a1,.int .i64 a2] rfl ml ?_;(with_reducible refine (impl_two.calls a0 a1 a2 true _ A4.out).mono ?_);rintro e w' ⟨rfl,⟨nd,rfl⟩⟩;refine ⟨_,rfl,?_⟩)|((with_reducible refine gate_callee (f:=61) rfl ?_);refine goesL_ (some 22) rfl rfl Tryz.func61 (by kernel_rfl) rfl #[.int .i64 a0,.int .i64 ji9] rfl (by (try simp only [List.map_toArray,List.map_cons,List.map_nil]);first|done|(simp only [hji9];rfl)|rfl|(simp only [List.length_drop,List.length_take];rfl)) ?_;(with_reducible refine (impl_cut.calls a0 ji9 A0 _ A10.out).mono ?_);rintro e w' ⟨rfl,⟨nd,rfl⟩⟩;refine ⟨_,rfl,?_⟩));go_ret;exact ⟨by first|rfl|(simp;done)|(simp only [← hji7,← hji9] <;> (first|rfl|simp))|(simp [*];done),by repeat (first|exact Drawn0.refl _|apply Drawn0.step)⟩
   ·rw [if_neg c8] at H;exact absurd H (by simp)
 ·replace c5:=Bool.eq_false_iff.mpr c5;subst c5
  have H1:(some 0)=some r:=by rw [if_neg (show ¬ (false=true) by decide)] at H;exact H
  clear H;have H:=H1;clear H1;obtain rfl:=os H
  go_enter Tryz.func116,Tryz.ntmps116
  go_wp2_with (first|((with_reducible refine gate_callee (f:=118) rfl ?_);refine goesL_ (some 10) rfl rfl Tryz.func118 (by kernel_rfl) rfl #[.int .i64 a0,.int .i64 a1,.int .i64 a2] rfl ml ?_;(with_reducible refine (impl_two.calls a0 a1 a2 false _ A4.out).mono ?_);rintro e w' ⟨rfl,⟨nd,rfl⟩⟩;refine ⟨_,rfl,?_⟩));go_ret;exact ⟨e1,dn⟩
def impl_Shr.f (a0:Int) (a1:Int) (a2:Int):Option (Int):=(impl_two.f a0 a1 a2).bind fun A0=>(if A0=true then (if a2 ≥ a0 then (some 0) else (if 0≤(IntKind.u64.wrap (a2)) then (some (shr .i64 a1 (IntKind.u64.wrap (a2)))) else (none))) else (some 0))
theorem impl_Shr.calls (a0:Int) (a1:Int) (a2:Int) (r:Int) (w:World) (h:impl_Shr.f a0 a1 a2=some r) :
  Calls Tryz.prog 117 #[.int .i64 a0,.int .i64 a1,.int .i64 a2] w fun e w'=>e = .returned (.int .i64 r)∧Drawn0 w w':=by
 have H:((impl_two.f a0 a1 a2).bind fun A0=>(if A0=true then (if a2 ≥ a0 then (some 0) else (if 0≤(IntKind.u64.wrap (a2)) then (some (shr .i64 a1 (IntKind.u64.wrap (a2)))) else (none))) else (some 0)))=some r:=h;clear h;replace H:=ob H;obtain ⟨A0,A40,H⟩:=H
 try dsimp only at H
 have A4:=Aside0.mk A40;clear A40
 by_cases c5:A0=true
 ·subst c5
  have H1:(if a2 ≥ a0 then (some 0) else (if 0≤(IntKind.u64.wrap (a2)) then (some (shr .i64 a1 (IntKind.u64.wrap (a2)))) else (none)))=some r:=by rw [if_pos rfl] at H;exact H
  clear H;have H:=H1;clear H1
  by_cases c6:a2 ≥ a0
  ·rw [if_pos c6] at H;have c6b0:decide (a0≤a2)=true:=decide_eq_true c6;clear c6;obtain rfl:=os H
   go_enter Tryz.func117,Tryz.ntmps117
   go_wp2_with (first|((with_reducible refine gate_callee (f:=118) rfl ?_);refine goesL_ (some 10) rfl rfl Tryz.func118 (by kernel_rfl) rfl #[.int .i64 a0,.int .i64 a1,.int .i64 a2] rfl ml ?_;(with_reducible refine (impl_two.calls a0 a1 a2 true _ A4.out).mono ?_);rintro e w' ⟨rfl,⟨nd,rfl⟩⟩;refine ⟨_,rfl,?_⟩));go_ret;exact ⟨e1,dn⟩
  ·rw [if_neg c6] at H;have c6b0:decide (a0≤a2)=false:=decide_eq_false c6;clear c6;obtain ⟨ji7,hji7⟩:∃ j_:Int,(IntKind.u64.wrap (a2))=j_:=⟨_,rfl⟩
   replace H:(if 0≤(ji7) then (some (shr .i64 a1 (ji7))) else (none))=some r:=by first|(rw [hji7] at H;exact H)|(simp only [hji7] at H ⊢;exact H)
   (try rw [hji7] at A4)
   by_cases c8:0≤(ji7)
   ·rw [if_pos c8] at H;have c8b0:=eq_true c8;have c8b1:decide (0≤(ji7))=true:=decide_eq_true c8;clear c8;obtain ⟨ji9,hji9⟩:∃ j_:Int,(shr .i64 a1 (ji7))=j_:=⟨_,rfl⟩
    replace H:(some ji9)=some r:=by first|(rw [hji9] at H;exact H)|(simp only [hji9] at H ⊢;exact H)
    (try rw [hji9] at A4)
    have hji9_:(a1 / 2 ^ min (ji7).toNat 64)=ji9:=hji9;have hji9z:(ji7)≤64→(a1 / 2 ^ (ji7).toNat)=ji9:=shr_small hji9;obtain rfl:=os H
    go_enter Tryz.func117,Tryz.ntmps117
    go_wp2_with (first|((with_reducible refine gate_callee (f:=118) rfl ?_);refine goesL_ (some 10) rfl rfl Tryz.func118 (by kernel_rfl) rfl #[.int .i64 a0,.int .i64 a1,.int .i64 a2] rfl ml ?_;(with_reducible refine (impl_two.calls a0 a1 a2 true _ A4.out).mono ?_);rintro e w' ⟨rfl,⟨nd,rfl⟩⟩;refine ⟨_,rfl,?_⟩));go_ret;exact ⟨by first|rfl|(simp;done)|(simp only [← hji7,← hji9] <;> (first|rfl|simp))|(simp [*];done),by repeat (first|exact Drawn0.refl _|apply Drawn0.step)⟩
   ·rw [if_neg c8] at H;exact absurd H (by simp)
 ·replace c5:=Bool.eq_false_iff.mpr c5;subst c5
  have H1:(some 0)=some r:=by rw [if_neg (show ¬ (false=true) by decide)] at H;exact H
  clear H;have H:=H1;clear H1;obtain rfl:=os H
  go_enter Tryz.func117,Tryz.ntmps117
  go_wp2_with (first|((with_reducible refine gate_callee (f:=118) rfl ?_);refine goesL_ (some 10) rfl rfl Tryz.func118 (by kernel_rfl) rfl #[.int .i64 a0,.int .i64 a1,.int .i64 a2] rfl ml ?_;(with_reducible refine (impl_two.calls a0 a1 a2 false _ A4.out).mono ?_);rintro e w' ⟨rfl,⟨nd,rfl⟩⟩;refine ⟨_,rfl,?_⟩));go_ret;exact ⟨e1,dn⟩
def impl_Sub.f (a0:Int) (a1:Int) (a2:Int):Option (Int):=(impl_two.f a0 a1 a2).bind fun A1=>(if A1=true then ((impl_cut.f a0 (wrap64 (a1 - a2))).bind fun A0=>(some A0)) else (some 0))
theorem impl_Sub.calls (a0:Int) (a1:Int) (a2:Int) (r:Int) (w:World) (h:impl_Sub.f a0 a1 a2=some r) :
  Calls Tryz.prog 112 #[.int .i64 a0,.int .i64 a1,.int .i64 a2] w fun e w'=>e = .returned (.int .i64 r)∧Drawn0 w w':=by
 have H:((impl_two.f a0 a1 a2).bind fun A1=>(if A1=true then ((impl_cut.f a0 (wrap64 (a1 - a2))).bind fun A0=>(some A0)) else (some 0)))=some r:=h;clear h;replace H:=ob H;obtain ⟨A1,A40,H⟩:=H;replace H:(if A1=true then ((impl_cut.f a0 (wrap64 (a1 - a2))).bind fun A0=>(some A0)) else (some 0))=some r:=H;have A4:=Aside0.mk A40;clear A40
 by_cases c5:A1=true
 ·subst c5
  have H1:((impl_cut.f a0 (wrap64 (a1 - a2))).bind fun A0=>(some A0))=some r:=by rw [if_pos rfl] at H;exact H
  clear H;have H:=H1;clear H1;replace H:=ob H;obtain ⟨A0,A60,H⟩:=H;replace H:(some A0)=some r:=H;have A6:=Aside0.mk A60;clear A60;obtain rfl:=os H
  go_enter Tryz.func112,Tryz.ntmps112
  go_wp2_with (first|((with_reducible refine gate_callee (f:=118) rfl ?_);refine goesL_ (some 10) rfl rfl Tryz.func118 (by kernel_rfl) rfl #[.int .i64 a0,.int .i64 a1,.int .i64 a2] rfl ml ?_;(with_reducible refine (impl_two.calls a0 a1 a2 true _ A4.out).mono ?_);rintro e w' ⟨rfl,⟨nd,rfl⟩⟩;refine ⟨_,rfl,?_⟩)|((with_reducible refine gate_callee (f:=61) rfl ?_);refine goesL_ (some 16) rfl rfl Tryz.func61 (by kernel_rfl) rfl #[.int .i64 a0,.int .i64 (wrap64 (a1 - a2))] rfl ml ?_;(with_reducible refine (impl_cut.calls a0 (wrap64 (a1 - a2)) A0 _ A6.out).mono ?_);rintro e w' ⟨rfl,⟨nd,rfl⟩⟩;refine ⟨_,rfl,?_⟩));go_ret;exact ⟨e1,dn⟩
 ·replace c5:=Bool.eq_false_iff.mpr c5;subst c5
  have H1:(some 0)=some r:=by rw [if_neg (show ¬ (false=true) by decide)] at H;exact H
  clear H;have H:=H1;clear H1;obtain rfl:=os H
  go_enter Tryz.func112,Tryz.ntmps112
  go_wp2_with (first|((with_reducible refine gate_callee (f:=118) rfl ?_);refine goesL_ (some 10) rfl rfl Tryz.func118 (by kernel_rfl) rfl #[.int .i64 a0,.int .i64 a1,.int .i64 a2] rfl ml ?_;(with_reducible refine (impl_two.calls a0 a1 a2 false _ A4.out).mono ?_);rintro e w' ⟨rfl,⟨nd,rfl⟩⟩;refine ⟨_,rfl,?_⟩));go_ret;exact ⟨e1,dn⟩
def impl_binary.f (a0:Int) (a1:Int) (a2:Int) (a3:Int):Option (Int):=if a0=3 then (some (Go.bits .and .i64 a2 a3)) else (if a0=4 then (some (Go.bits .or .i64 a2 a3)) else (if a0=5 then (some (Go.bits .xor .i64 a2 a3)) else (if a0=6 then ((impl_Add.f a1 a2 a3).bind fun A0=>(some A0)) else (if a0=7 then ((impl_Sub.f a1 a2 a3).bind fun A1=>(some A1)) else (if a0=8 then ((impl_Mul.f a1 a2 a3).bind fun A2=>(some A2)) else (if a0=9 then ((impl_Div.f a1 a2 a3).bind fun A3=>(some A3)) else (if a0=10 then ((impl_Rem.f a1 a2 a3).bind fun A4=>(some A4)) else (if a0=11 then ((impl_Shl.f a1 a2 a3).bind fun A5=>(some A5)) else ((impl_Shr.f a1 a2 a3).bind fun A6=>(some A6))))))))))
theorem impl_binary.calls (a0:Int) (a1:Int) (a2:Int) (a3:Int) (r:Int) (w:World) (h:impl_binary.f a0 a1 a2 a3=some r) :
  Calls Tryz.prog 103 #[.int .i64 a0,.int .i64 a1,.int .i64 a2,.int .i64 a3] w fun e w'=>e = .returned (.int .i64 r)∧Drawn0 w w':=by
 have H:(if a0=3 then (some (Go.bits .and .i64 a2 a3)) else (if a0=4 then (some (Go.bits .or .i64 a2 a3)) else (if a0=5 then (some (Go.bits .xor .i64 a2 a3)) else (if a0=6 then ((impl_Add.f a1 a2 a3).bind fun A0=>(some A0)) else (if a0=7 then ((impl_Sub.f a1 a2 a3).bind fun A1=>(some A1)) else (if a0=8 then ((impl_Mul.f a1 a2 a3).bind fun A2=>(some A2)) else (if a0=9 then ((impl_Div.f a1 a2 a3).bind fun A3=>(some A3)) else (if a0=10 then ((impl_Rem.f a1 a2 a3).bind fun A4=>(some A4)) else (if a0=11 then ((impl_Shl.f a1 a2 a3).bind fun A5=>(some A5)) else ((impl_Shr.f a1 a2 a3).bind fun A6=>(some A6)))))))))))=some r:=h;clear h
 by_cases c5:a0=3
 ·rw [if_pos c5] at H;have c5b0:(a0 == 3)=true:=beq_iff_eq.mpr c5;have c5b1:(a0 != 3)=false:=bne_eq_false_iff_eq.mpr c5;clear c5;obtain rfl:=os H
  go_enter Tryz.func103,Tryz.ntmps103
  go_wp2;go_ret;exact ⟨e1,dn⟩
 ·rw [if_neg c5] at H;have c5b0:(a0 == 3)=false:=beq_eq_false_iff_ne.mpr c5;have c5b1:(a0 != 3)=true:=bne_iff_ne.mpr c5
  by_cases c6:a0=4
  ·rw [if_pos c6] at H;have c6b0:(a0 == 4)=true:=beq_iff_eq.mpr c6;have c6b1:(a0 != 4)=false:=bne_eq_false_iff_eq.mpr c6;clear c6;obtain rfl:=os H
   go_enter Tryz.func103,Tryz.ntmps103
   go_wp2;go_ret;exact ⟨e1,dn⟩
  ·rw [if_neg c6] at H;have c6b0:(a0 == 4)=false:=beq_eq_false_iff_ne.mpr c6;have c6b1:(a0 != 4)=true:=bne_iff_ne.mpr c6
   by_cases c7:a0=5
   ·rw [if_pos c7] at H;have c7b0:(a0 == 5)=true:=beq_iff_eq.mpr c7;have c7b1:(a0 != 5)=false:=bne_eq_false_iff_eq.mpr c7;clear c7;obtain rfl:=os H
    go_enter Tryz.func103,Tryz.ntmps103
    go_wp2;go_ret;exact ⟨e1,dn⟩
   ·rw [if_neg c7] at H;have c7b0:(a0 == 5)=false:=beq_eq_false_iff_ne.mpr c7;have c7b1:(a0 != 5)=true:=bne_iff_ne.mpr c7
    by_cases c8:a0=6
    ·rw [if_pos c8] at H;have c8b0:(a0 == 6)=true:=beq_iff_eq.mpr c8;have c8b1:(a0 != 6)=false:=bne_eq_false_iff_eq.mpr c8;clear c8;replace H:=ob H;obtain ⟨A0,A90,H⟩:=H;replace H:(some A0)=some r:=H;have A9:=Aside0.mk A90;clear A90;obtain rfl:=os H
     go_enter Tryz.func103,Tryz.ntmps103
     go_wp2_with (first|((with_reducible refine gate_callee (f:=111) rfl ?_);refine goesL_ (some 30) rfl rfl Tryz.func111 (by kernel_rfl) rfl #[.int .i64 a1,.int .i64 a2,.int .i64 a3] rfl ml ?_;(with_reducible refine (impl_Add.calls a1 a2 a3 A0 _ A9.out).mono ?_);rintro e w' ⟨rfl,⟨nd,rfl⟩⟩;refine ⟨_,rfl,?_⟩));go_ret;exact ⟨e1,dn⟩
    ·rw [if_neg c8] at H;have c8b0:(a0 == 6)=false:=beq_eq_false_iff_ne.mpr c8;have c8b1:(a0 != 6)=true:=bne_iff_ne.mpr c8
     by_cases c10:a0=7
     ·rw [if_pos c10] at H;have c10b0:(a0 == 7)=true:=beq_iff_eq.mpr c10;have c10b1:(a0 != 7)=false:=bne_eq_false_iff_eq.mpr c10;clear c10;replace H:=ob H;obtain ⟨A1,A110,H⟩:=H;replace H:(some A1)=some r:=H;have A11:=Aside0.mk A110;clear A110;obtain rfl:=os H
      go_enter Tryz.func103,Tryz.ntmps103
      go_wp2_with (first|((with_reducible refine gate_callee (f:=112) rfl ?_);refine goesL_ (some 36) rfl rfl Tryz.func112 (by kernel_rfl) rfl #[.int .i64 a1,.int .i64 a2,.int .i64 a3] rfl ml ?_;(with_reducible refine (impl_Sub.calls a1 a2 a3 A1 _ A11.out).mono ?_);rintro e w' ⟨rfl,⟨nd,rfl⟩⟩;refine ⟨_,rfl,?_⟩));go_ret;exact ⟨e1,dn⟩
     ·rw [if_neg c10] at H;have c10b0:(a0 == 7)=false:=beq_eq_false_iff_ne.mpr c10;have c10b1:(a0 != 7)=true:=bne_iff_ne.mpr c10
      by_cases c12:a0=8
      ·rw [if_pos c12] at H;have c12b0:(a0 == 8)=true:=beq_iff_eq.mpr c12;have c12b1:(a0 != 8)=false:=bne_eq_false_iff_eq.mpr c12;clear c12;replace H:=ob H;obtain ⟨A2,A130,H⟩:=H;replace H:(some A2)=some r:=H;have A13:=Aside0.mk A130;clear A130;obtain rfl:=os H
       go_enter Tryz.func103,Tryz.ntmps103
       go_wp2_with (first|((with_reducible refine gate_callee (f:=113) rfl ?_);refine goesL_ (some 42) rfl rfl Tryz.func113 (by kernel_rfl) rfl #[.int .i64 a1,.int .i64 a2,.int .i64 a3] rfl ml ?_;(with_reducible refine (impl_Mul.calls a1 a2 a3 A2 _ A13.out).mono ?_);rintro e w' ⟨rfl,⟨nd,rfl⟩⟩;refine ⟨_,rfl,?_⟩));go_ret;exact ⟨e1,dn⟩
      ·rw [if_neg c12] at H;have c12b0:(a0 == 8)=false:=beq_eq_false_iff_ne.mpr c12;have c12b1:(a0 != 8)=true:=bne_iff_ne.mpr c12
       by_cases c14:a0=9
       ·rw [if_pos c14] at H;have c14b0:(a0 == 9)=true:=beq_iff_eq.mpr c14;have c14b1:(a0 != 9)=false:=bne_eq_false_iff_eq.mpr c14;clear c14;replace H:=ob H;obtain ⟨A3,A150,H⟩:=H;replace H:(some A3)=some r:=H;have A15:=Aside0.mk A150;clear A150;obtain rfl:=os H
        go_enter Tryz.func103,Tryz.ntmps103
        go_wp2_with (first|((with_reducible refine gate_callee (f:=114) rfl ?_);refine goesL_ (some 48) rfl rfl Tryz.func114 (by kernel_rfl) rfl #[.int .i64 a1,.int .i64 a2,.int .i64 a3] rfl ml ?_;(with_reducible refine (impl_Div.calls a1 a2 a3 A3 _ A15.out).mono ?_);rintro e w' ⟨rfl,⟨nd,rfl⟩⟩;refine ⟨_,rfl,?_⟩));go_ret;exact ⟨e1,dn⟩
       ·rw [if_neg c14] at H;have c14b0:(a0 == 9)=false:=beq_eq_false_iff_ne.mpr c14;have c14b1:(a0 != 9)=true:=bne_iff_ne.mpr c14
        by_cases c16:a0=10
        ·rw [if_pos c16] at H;have c16b0:(a0 == 10)=true:=beq_iff_eq.mpr c16;have c16b1:(a0 != 10)=false:=bne_eq_false_iff_eq.mpr c16;clear c16;replace H:=ob H;obtain ⟨A4,A170,H⟩:=H;replace H:(some A4)=some r:=H;have A17:=Aside0.mk A170;clear A170;obtain rfl:=os H
         go_enter Tryz.func103,Tryz.ntmps103
         go_wp2_with (first|((with_reducible refine gate_callee (f:=115) rfl ?_);refine goesL_ (some 54) rfl rfl Tryz.func115 (by kernel_rfl) rfl #[.int .i64 a1,.int .i64 a2,.int .i64 a3] rfl ml ?_;(with_reducible refine (impl_Rem.calls a1 a2 a3 A4 _ A17.out).mono ?_);rintro e w' ⟨rfl,⟨nd,rfl⟩⟩;refine ⟨_,rfl,?_⟩));go_ret;exact ⟨e1,dn⟩
        ·rw [if_neg c16] at H;have c16b0:(a0 == 10)=false:=beq_eq_false_iff_ne.mpr c16;have c16b1:(a0 != 10)=true:=bne_iff_ne.mpr c16
         by_cases c18:a0=11
         ·rw [if_pos c18] at H;have c18b0:(a0 == 11)=true:=beq_iff_eq.mpr c18;have c18b1:(a0 != 11)=false:=bne_eq_false_iff_eq.mpr c18;clear c18;replace H:=ob H;obtain ⟨A5,A190,H⟩:=H;replace H:(some A5)=some r:=H;have A19:=Aside0.mk A190;clear A190;obtain rfl:=os H
          go_enter Tryz.func103,Tryz.ntmps103
          go_wp2_with (first|((with_reducible refine gate_callee (f:=116) rfl ?_);refine goesL_ (some 60) rfl rfl Tryz.func116 (by kernel_rfl) rfl #[.int .i64 a1,.int .i64 a2,.int .i64 a3] rfl ml ?_;(with_reducible refine (impl_Shl.calls a1 a2 a3 A5 _ A19.out).mono ?_);rintro e w' ⟨rfl,⟨nd,rfl⟩⟩;refine ⟨_,rfl,?_⟩));go_ret;exact ⟨e1,dn⟩
         ·rw [if_neg c18] at H;have c18b0:(a0 == 11)=false:=beq_eq_false_iff_ne.mpr c18;have c18b1:(a0 != 11)=true:=bne_iff_ne.mpr c18;replace H:=ob H;obtain ⟨A6,A200,H⟩:=H;replace H:(some A6)=some r:=H;have A20:=Aside0.mk A200;clear A200;obtain rfl:=os H
          go_enter Tryz.func103,Tryz.ntmps103
          go_wp2_with (first|((with_reducible refine gate_callee (f:=117) rfl ?_);refine goesL_ (some 64) rfl rfl Tryz.func117 (by kernel_rfl) rfl #[.int .i64 a1,.int .i64 a2,.int .i64 a3] rfl ml ?_;(with_reducible refine (impl_Shr.calls a1 a2 a3 A6 _ A20.out).mono ?_);rintro e w' ⟨rfl,⟨nd,rfl⟩⟩;refine ⟨_,rfl,?_⟩));go_ret;exact ⟨e1,dn⟩
def impl_isByte.f (a0:Int):Option (Bool):=(impl_within.f a0 0 255).bind fun A0=>(some A0)
theorem impl_isByte.calls (a0:Int) (r:Bool) (w:World) (h:impl_isByte.f a0=some r) :
  Calls Tryz.prog 101 #[.int .i64 a0] w fun e w'=>e = .returned (.bool r)∧Drawn0 w w':=by
 have H:((impl_within.f a0 0 255).bind fun A0=>(some A0))=some r:=h;clear h;replace H:=ob H;obtain ⟨A0,A20,H⟩:=H;replace H:(some A0)=some r:=H;have A2:=Aside0.mk A20;clear A20;obtain rfl:=os H
 go_enter Tryz.func101,Tryz.ntmps101
 go_wp2_with (first|((with_reducible refine gate_callee (f:=75) rfl ?_);refine goesL_ (some 4) rfl rfl Tryz.func75 (by kernel_rfl) rfl #[.int .i64 a0,.int .i64 0,.int .i64 255] rfl ml ?_;(with_reducible refine (impl_within.calls a0 0 255 A0 _ A2.out).mono ?_);rintro e w' ⟨rfl,⟨nd,rfl⟩⟩;refine ⟨_,rfl,?_⟩));go_ret;exact ⟨e1,dn⟩
end Go.Proofs.YthipjoioicmcnaaGreat.G
