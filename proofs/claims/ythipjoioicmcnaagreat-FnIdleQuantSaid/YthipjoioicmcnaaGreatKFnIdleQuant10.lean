-- texts of this session, merged by a program of it (wip/gen/pack.py)
import Derived.Test.YthipjoioicmcnaaGreatKFnIdleQuant2
import Derived.Test.YthipjoioicmcnaaGreatKFnIdleQuant6
import Derived.Test.YthipjoioicmcnaaGreatKFnIdleQuant9
import Derived.Test.YthipjoioicmcnaaGreatKFnIdleQuant8
import Derived.Test.YthipjoioicmcnaaGreatKFnIdleQuant7
set_option linter.unusedVariables false
set_option linter.unusedSimpArgs false
set_option maxHeartbeats 80000000
set_option maxRecDepth 100000
namespace Go.Proofs.YthipjoioicmcnaaGreat.G
open Go.RowKit Go.Proofs.YthipjoioicmcnaaGreatW.PrintWords Go.Proofs.YthipjoioicmcnaaGreatW.PrintLast Go.Proofs.YthipjoioicmcnaaGreatW.PrintMore Go.Proofs.YthipjoioicmcnaaGreat.Sh
attribute [local go_sem] max2_int min2_int max_two min_two max_three min_three max_four min_four
mutual
def spec_Front.l0:Nat→List (S52)→List (S31)→List (S52)→Int→Option ((List (S31)) × (List (S52)) × Bool)
 | 0,_,_,_,_=>none
 | k + 1,x0,x5,x6,x7=>if x7 < (x0.length:Int) then (if 0≤x7 then ((spec_Parts.f k ((rd_T52 x0 x7).f0) ((rd_T52 x0 x7).f1) ((rd_T52 x0 x7).f2) ((rd_T52 x0 x7).f3) ((rd_T52 x0 x7).f4) ((rd_T52 x0 x7).f5)).bind fun A9=>(if (A9.length:Int) > 0 then ((spec_l05Below.f k x0 ((rd_T52 x0 x7).f3)).bind fun Am=>(spec_Front.j1 k x0 x5 x6 x7 A9 ((rd_T52 x0 x7).f0) ((rd_T52 x0 x7).f1) ((rd_T52 x0 x7).f2) Am ((rd_T52 x0 x7).f4) ((rd_T52 x0 x7).f5))) else (spec_Front.j1 k x0 x5 x6 x7 A9 ((rd_T52 x0 x7).f0) ((rd_T52 x0 x7).f1) ((rd_T52 x0 x7).f2) ((rd_T52 x0 x7).f3) ((rd_T52 x0 x7).f4) ((rd_T52 x0 x7).f5)))) else (none)) else ((spec_l05Below.f k x0 (wrap64 ((x0.length:Int) - 1))).bind fun Al=>(if 0≤(wrap64 (Al + 1)) then (if (wrap64 (Al + 1))≤(x6.length:Int) then ((spec_Prune.f k (x6.take ((wrap64 (Al + 1)):Int).toNat)).bind fun Ak=>(some (x5,Ak,true))) else (none)) else (none)))
def spec_Front.j1:Nat→List (S52)→List (S31)→List (S52)→Int→List Int→Int→Int→Int→Int→Int→Int→Option ((List (S31)) × (List (S52)) × Bool)
 | 0,_,_,_,_,_,_,_,_,_,_,_=>none
 | k + 1,x0,x5,x6,x7,x9,x127000,x127001,x127002,x127003,x127004,x127005=>if (x9.length:Int) > 1 then ((spec_l05Below.f k x0 x127004).bind fun Ac=>(if (x9.length:Int) > 2 then ((spec_l05Below.f k x0 x127005).bind fun Af=>(if x6.length < 2932031007402 then (spec_Front.l0 k x0 x5 (x6 ++ [(⟨x127000,x127001,x127002,x127003,Ac,Af⟩:S52)]) (wrap64 (x7 + 1))) else (none))) else (if x6.length < 2932031007402 then (spec_Front.l0 k x0 x5 (x6 ++ [(⟨x127000,x127001,x127002,x127003,Ac,x127005⟩:S52)]) (wrap64 (x7 + 1))) else (none)))) else (if (x9.length:Int) > 2 then ((spec_l05Below.f k x0 x127005).bind fun Ag=>(if x6.length < 2932031007402 then (spec_Front.l0 k x0 x5 (x6 ++ [(⟨x127000,x127001,x127002,x127003,x127004,Ag⟩:S52)]) (wrap64 (x7 + 1))) else (none))) else (if x6.length < 2932031007402 then (spec_Front.l0 k x0 x5 (x6 ++ [(⟨x127000,x127001,x127002,x127003,x127004,x127005⟩:S52)]) (wrap64 (x7 + 1))) else (none)))
end
def spec_Front.f (k:Nat) (l0:List (S52)):Option ((List (S31)) × (List (S52)) × Bool):=(spec_Sentence.f k l0).bind fun An=>(if An=true then ((spec_l02Holder.f k l0).bind fun Aj=>((spec_l05Walk.f k l0 Aj (wrap64 ((l0.length:Int) - 1)) false).bind fun Ad=>(spec_Front.l0 k l0 Ad (([]:List (S52))) 0))) else (some ((([]:List (S31))),(([]:List (S52))),false)))
theorem spec_Front.calls (k:Nat) (A0:Option Addr) (c0:Nat) (l0:List (S52)) (r1:List (S31)) (r2:List (S52)) (r3:Bool) (w:World) (hr0:Kd.C k52 w A0 l0.length l0) (hc0:l0.length≤c0) (h:spec_Front.f k l0=some (r1,r2,r3)) :
  Calls Tryz.prog 7 #[.slice A0 l0.length c0] w fun e w'=>∃ v0_ v1_:Value,e = .returned (.tuple #[v0_,v1_,.bool r3])∧Kd.R k31 31 w' w.heap.size (fun _=>True) v0_ r1∧Kd.R k52 52 w' w.heap.size (fun _=>True) v1_ r2∧Below w.heap.size w w':=by
 have hu52:=Tryz.underlying52;have HR0:=Aside0.mk hr0;have HC0:=Aside0.mk hc0;clear hr0 hc0;have HB:=Aside0.mk (Below.refl w.heap.size w);have H:((spec_Sentence.f k l0).bind fun An=>(if An=true then ((spec_l02Holder.f k l0).bind fun Aj=>((spec_l05Walk.f k l0 Aj (wrap64 ((l0.length:Int) - 1)) false).bind fun Ad=>(spec_Front.l0 k l0 Ad (([]:List (S52))) 0))) else (some ((([]:List (S31))),(([]:List (S52))),false))))=some (r1,r2,r3):=h;clear h;replace H:=ob H;obtain ⟨An,A20,H⟩:=H
 try dsimp only at H
 have A2:=Aside0.mk A20;clear A20
 by_cases c3:An=true
 ·subst c3
  have H1:((spec_l02Holder.f k l0).bind fun Aj=>((spec_l05Walk.f k l0 Aj (wrap64 ((l0.length:Int) - 1)) false).bind fun Ad=>(spec_Front.l0 k l0 Ad (([]:List (S52))) 0)))=some (r1,r2,r3):=by rw [if_pos rfl] at H;exact H
  clear H;have H:=H1;clear H1;replace H:=ob H;obtain ⟨Aj,A40,H⟩:=H
  try dsimp only at H
  have A4:=Aside0.mk A40;clear A40;replace H:=ob H;obtain ⟨Ad,A50,H⟩:=H;replace H:(spec_Front.l0 k l0 Ad (([]:List (S52))) 0)=some (r1,r2,r3):=H;have A5:=Aside0.mk A50;clear A50;obtain ⟨y114,hy114⟩:∃ y_:List (S52),y_=(([]:List (S52))):=⟨_,rfl⟩;replace H:(spec_Front.l0 k l0 Ad y114 0)=some (r1,r2,r3):=hy_ hy114 H;have Ny114:=Aside0.mk hy114;clear hy114;have H':=Aside0.mk H;clear H
  go_enter Tryz.func7,Tryz.ntmps7
  go_wp2_with (first|((with_reducible refine gate_callee (f:=24) rfl ?_);refine goesL_ (some 11) rfl rfl Tryz.func24 (by kernel_rfl) rfl #[.slice A0 l0.length c0] rfl ml ?_;(with_reducible refine (spec_Sentence.calls k _ _ l0 true _ ?side1 ?side2 A2.out).mono ?_);(case side1=>exact cw HR0.out);(case side2=>exact HC0.out);rintro e w6 ⟨rfl,hb⟩;refine ⟨_,rfl,?_⟩;replace HB:=Aside0.mk (below_step (tb HB) hb);(try clear hb);(try clear hb2);(try clear hk);(try clear hi))|((with_reducible refine gate_callee (f:=26) rfl ?_);refine goesL_ (some 17) rfl rfl Tryz.func26 (by kernel_rfl) rfl #[.slice A0 l0.length c0] rfl ml ?_;(with_reducible refine (spec_l02Holder.calls k _ _ l0 Aj _ ?side1 ?side2 A4.out).mono ?_);(case side1=>exact cw (Kd.C_below HR0.out HB.out));(case side2=>exact HC0.out);rintro e w7 ⟨v109,rfl,ho0,hb⟩;refine ⟨_,rfl,?_⟩;have Ah:=Aside0.mk (Kd.R_lower ho0 (below_size (tb HB)));replace HB:=Aside0.mk (below_step (tb HB) hb);(try clear hb);(try clear hb2);(try clear hk);(try clear hi);(try clear ho0);obtain ⟨Ao8,co8,eo8⟩:=Kd.R_slice Ah.out;subst eo8)|((with_reducible refine gate_callee (f:=25) rfl ?_);refine goesL_ (some 21) rfl rfl Tryz.func25 (by kernel_rfl) rfl #[.slice A0 l0.length c0,.slice Ao8 Aj.length co8,.int .i64 (wrap64 ((l0.length:Int) - 1)),.bool false] rfl ml ?_;(with_reducible refine (spec_l05Walk.calls k _ _ l0 _ _ Aj (wrap64 ((l0.length:Int) - 1)) false Ad _ ?side1 ?side2 ?side3 ?side4 A5.out).mono ?_);(case side1=>exact cw (Kd.C_below HR0.out HB.out));(case side2=>exact HC0.out);(case side3=>exact cw (Kd.R_reads' Ah.out).2.2);(case side4=>exact (Kd.R_reads' Ah.out).2.1);rintro e w9 ⟨v112,rfl,ho0,hb⟩;refine ⟨_,rfl,?_⟩;replace Ah:=Aside0.mk (Kd.R_below (ra Ah) hb);have Ao:=Aside0.mk (Kd.R_lower ho0 (below_size (tb HB)));replace HB:=Aside0.mk (below_step (tb HB) hb);(try clear hb);(try clear hb2);(try clear hk);(try clear hi);(try clear ho0))|((with_reducible refine gate_dst (N:=22) rfl ?_);refine Kd.R_lit k52 _ 52 ?hg (N:=22) ?hd (xs:=([]:List (S52))) (inner:=[]) (ok:=fun _=>True) (okp:=fun _=>True) ?hr ?hp (fun _ hk=>hk) trivial (Below.refl _ _) (Nat.le_refl _) (by simp) ?_;(case hd=>rfl);(case hg=>rfl);(case hr=>first|(go_simp;done)|(go_simp;rfl));(case hp=>exact (Reps.none _ _));intro v115 w10 ho11 hb hg_ hnew_;clear hg_ hnew_;(first|rw [← Ny114.out] at ho11|(simp only [Int.reduceToNat] at ho11;rw [← Ny114.out] at ho11));replace Ah:=Aside0.mk (Kd.R_below (ra Ah) hb);replace Ao:=Aside0.mk (Kd.R_below (ra Ao) hb);have Au:=Aside0.mk (Kd.R_lower ho11 (below_size (tb HB)));replace HB:=Aside0.mk (below_step (tb HB) hb);clear hb ho11))
  go_loopg [6,7] k (fun kq v6 v7 w'=>∃ (Ab:List (S52)) (A1:Int),v7 = .int .i64 A1∧Aside0 (spec_Front.l0 kq l0 Ad Ab A1=some (r1,r2,r3))∧Aside0 (kq≤k)∧Aside0 (Kd.R k31 31 w' w.heap.size (fun _=>True) v112 Ad)∧Aside0 (Kd.R k52 52 w' w.heap.size (fun _=>True) v6 Ab)∧Aside0 (Below w.heap.size w w'))
  case atStart=>exact ⟨(y114),(0),(by first|rfl|(simp;done)|(simp [*];done)),H',⟨Nat.le_refl _⟩,⟨ra Ao⟩,⟨ra Au⟩,⟨by exact tb HB⟩⟩
  case round =>
   clear H';(try clear c2);(try clear p2);(try clear c3);(try clear p6);(try clear c7);obtain ⟨Ab,A1,rfl,HA,HK1,Aa,A8,HB⟩:=hrel
   cases gk with
   | zero=>exact absurd HA.out (by simp [spec_Front.l0])
   | succ k1 =>
    have H:=HA.out;clear HA;simp only [spec_Front.l0] at H
    by_cases c12:A1 < (l0.length:Int)
    ·rw [if_pos c12] at H;have c12b0:decide (A1 < (l0.length:Int))=true:=decide_eq_true c12;clear c12
     by_cases c13:0≤A1
     ·rw [if_pos c13] at H;have c13b0:decide (0≤A1)=true:=decide_eq_true c13;clear c13;replace H:=ob H;obtain ⟨A9,A140,H⟩:=H
      try dsimp only at H
      have A14:=Aside0.mk A140;clear A140;have HC15:=Aside0.mk H;clear H;have p125:0≤(A1:Int):=od;have q125:A1 < (l0.length:Int):=od;obtain ⟨ad125,e125,hx125_0,hx125_1,hx125_2,hx125_3,hx125_4,hx125_5⟩:=at_T52 HR0.out A1 p125 q125;cases e125;replace hx125_0:=ct HB hx125_0;replace hx125_1:=ct HB hx125_1;replace hx125_2:=ct HB hx125_2;replace hx125_3:=ct HB hx125_3;replace hx125_4:=ct HB hx125_4;replace hx125_5:=ct HB hx125_5;replace p125:=eq_true p125;replace q125:=eq_true q125
      go_upto_if 37 with (first|((with_reducible refine gate_dst (N:=8) rfl ?_);refine bx (N:=8) (cs:=#[.int .i64 0,.int .i64 0,.int .i64 0,.int .i64 0,.int .i64 0,.int .i64 0]) (t:=52) ?_;intro A6 hg w16 hbox hb;replace Aa:=Aside0.mk (Kd.R_below (ra Aa) hb);replace A8:=Aside0.mk (Kd.R_below (Kd.R_elderB (ra A8) A6 (Nat.le_of_eq hg.symm)) hb);have A7:=Aside0.mk (hbox);have GW126:=Aside0.mk ((by rw [hg];exact (below_size (tb HB)):w.heap.size≤A6));have GE126:=Aside0.mk ((by rw [hg];exact (below_size (tb HB)):w.heap.size≤A6));replace HB:=Aside0.mk (below_step (tb HB) hb);clear hb hbox hg;have hcz17__:=c6_ A7;have hfz17__:=f_ A7)|((with_reducible refine gate_callee (f:=27) rfl ?_);refine goesL_ (some 34) rfl rfl Tryz.func27 (by kernel_rfl) rfl #[.agg #[.int .i64 ((rd_T52 l0 A1).f0),.int .i64 ((rd_T52 l0 A1).f1),.int .i64 ((rd_T52 l0 A1).f2),.int .i64 ((rd_T52 l0 A1).f3),.int .i64 ((rd_T52 l0 A1).f4),.int .i64 ((rd_T52 l0 A1).f5)]] rfl ml ?_;(with_reducible refine (spec_Parts.calls k1 ((rd_T52 l0 A1).f0) ((rd_T52 l0 A1).f1) ((rd_T52 l0 A1).f2) ((rd_T52 l0 A1).f3) ((rd_T52 l0 A1).f4) ((rd_T52 l0 A1).f5) A9 _ A14.out).mono ?_);rintro e w18 ⟨v128,rfl,ho0,hb⟩;refine ⟨_,rfl,?_⟩;replace Aa:=Aside0.mk (Kd.R_below (by (with_reducible repeat (first|apply Kd.R_alloc|apply Kd.R_drewN|apply Kd.R_drew));exact (Kd.R_mono (Kd.R_far (p:=⟨A6,5,none⟩) (Kd.R_far (p:=⟨A6,4,none⟩) (Kd.R_far (p:=⟨A6,3,none⟩) (Kd.R_far (p:=⟨A6,2,none⟩) (Kd.R_far (p:=⟨A6,1,none⟩) (Kd.R_far (p:=⟨A6,0,none⟩) (Kd.R_types Aa.out A7.out (by decide)) (fun _ hk=>hk.2) (.int .i64 ((rd_T52 l0 A1).f0))) (fun _ hk=>hk.2) (.int .i64 ((rd_T52 l0 A1).f1))) (fun _ hk=>hk.2) (.int .i64 ((rd_T52 l0 A1).f2))) (fun _ hk=>hk.2) (.int .i64 ((rd_T52 l0 A1).f3))) (fun _ hk=>hk.2) (.int .i64 ((rd_T52 l0 A1).f4))) (fun _ hk=>hk.2) (.int .i64 ((rd_T52 l0 A1).f5))) (fun _ h_=>h_.1))) hb);replace A8:=Aside0.mk (Kd.R_below (by (with_reducible repeat (first|apply Kd.R_alloc|apply Kd.R_drewN|apply Kd.R_drew));exact (Kd.R_mono (Kd.R_far (p:=⟨A6,5,none⟩) (Kd.R_far (p:=⟨A6,4,none⟩) (Kd.R_far (p:=⟨A6,3,none⟩) (Kd.R_far (p:=⟨A6,2,none⟩) (Kd.R_far (p:=⟨A6,1,none⟩) (Kd.R_far (p:=⟨A6,0,none⟩) (Kd.R_mono A8.out (fun k_ hk=>(⟨hk,hk.2⟩:_∧k_≠A6))) (fun _ hk=>hk.2) (.int .i64 ((rd_T52 l0 A1).f0))) (fun _ hk=>hk.2) (.int .i64 ((rd_T52 l0 A1).f1))) (fun _ hk=>hk.2) (.int .i64 ((rd_T52 l0 A1).f2))) (fun _ hk=>hk.2) (.int .i64 ((rd_T52 l0 A1).f3))) (fun _ hk=>hk.2) (.int .i64 ((rd_T52 l0 A1).f4))) (fun _ hk=>hk.2) (.int .i64 ((rd_T52 l0 A1).f5))) (fun _ h_=>h_.1))) hb);have Ai:=Aside0.mk (Kd.R_lower ho0 (below_size (tb HB)));replace A7:=Aside0.mk (blk_below (g:=A6) (o := .cells #[.int .i64 ((rd_T52 l0 A1).f0),.int .i64 ((rd_T52 l0 A1).f1),.int .i64 ((rd_T52 l0 A1).f2),.int .i64 ((rd_T52 l0 A1).f3),.int .i64 ((rd_T52 l0 A1).f4),.int .i64 ((rd_T52 l0 A1).f5)] 52 (0,0)) (by (with_reducible repeat (first|refine blk_drewN ?_ _|refine blk_drew ?_|refine blk_alloc ?_ _));refine blk_put (cs:=#[.int .i64 ((rd_T52 l0 A1).f0),.int .i64 ((rd_T52 l0 A1).f1),.int .i64 ((rd_T52 l0 A1).f2),.int .i64 ((rd_T52 l0 A1).f3),.int .i64 ((rd_T52 l0 A1).f4),.int .i64 0]) ?_ 5 _ rfl;(with_reducible repeat (first|refine blk_drewN ?_ _|refine blk_drew ?_|refine blk_alloc ?_ _));refine blk_put (cs:=#[.int .i64 ((rd_T52 l0 A1).f0),.int .i64 ((rd_T52 l0 A1).f1),.int .i64 ((rd_T52 l0 A1).f2),.int .i64 ((rd_T52 l0 A1).f3),.int .i64 0,.int .i64 0]) ?_ 4 _ rfl;(with_reducible repeat (first|refine blk_drewN ?_ _|refine blk_drew ?_|refine blk_alloc ?_ _));refine blk_put (cs:=#[.int .i64 ((rd_T52 l0 A1).f0),.int .i64 ((rd_T52 l0 A1).f1),.int .i64 ((rd_T52 l0 A1).f2),.int .i64 0,.int .i64 0,.int .i64 0]) ?_ 3 _ rfl;(with_reducible repeat (first|refine blk_drewN ?_ _|refine blk_drew ?_|refine blk_alloc ?_ _));refine blk_put (cs:=#[.int .i64 ((rd_T52 l0 A1).f0),.int .i64 ((rd_T52 l0 A1).f1),.int .i64 0,.int .i64 0,.int .i64 0,.int .i64 0]) ?_ 2 _ rfl;(with_reducible repeat (first|refine blk_drewN ?_ _|refine blk_drew ?_|refine blk_alloc ?_ _));refine blk_put (cs:=#[.int .i64 ((rd_T52 l0 A1).f0),.int .i64 0,.int .i64 0,.int .i64 0,.int .i64 0,.int .i64 0]) ?_ 1 _ rfl;(with_reducible repeat (first|refine blk_drewN ?_ _|refine blk_drew ?_|refine blk_alloc ?_ _));refine blk_put (cs:=#[.int .i64 0,.int .i64 0,.int .i64 0,.int .i64 0,.int .i64 0,.int .i64 0]) ?_ 0 _ rfl;(with_reducible repeat (first|refine blk_drewN ?_ _|refine blk_drew ?_|refine blk_alloc ?_ _));exact A7.out) hb);replace HB:=Aside0.mk (below_step (tb HB) hb);(try clear hb);(try clear hb2);(try clear hk);(try clear hi);(try clear ho0);obtain ⟨Ap,Aq,eo19⟩:=Kd.R_slice Ai.out;subst eo19))
      (try simp only [Act.put,List.setIfInBounds_toArray,List.set_cons_zero,List.set_cons_succ])
      go_cut [] (fun wc=>∃ (kq:Nat) (A3:Int),Aside0 (spec_Front.j1 kq l0 Ad Ab A1 A9 ((rd_T52 l0 A1).f0) ((rd_T52 l0 A1).f1) ((rd_T52 l0 A1).f2) A3 ((rd_T52 l0 A1).f4) ((rd_T52 l0 A1).f5)=some (r1,r2,r3))∧Aside0 (kq≤k1)∧Aside0 (Kd.R k31 31 wc w.heap.size (fun _=>True) v112 Ad)∧Aside0 (Kd.R k52 52 wc w.heap.size (fun k_=>k_≠A6) u6 Ab)∧Aside0 (Kd.R (Kd.int .i64) 3 wc w.heap.size (fun _=>True) (.slice Ap A9.length Aq) A9)∧Aside0 (wc.heap[A6]? = some (.cells #[.int .i64 ((rd_T52 l0 A1).f0),.int .i64 ((rd_T52 l0 A1).f1),.int .i64 ((rd_T52 l0 A1).f2),.int .i64 A3,.int .i64 ((rd_T52 l0 A1).f4),.int .i64 ((rd_T52 l0 A1).f5)] 52 (0,0)))∧Aside0 (Below w.heap.size w wc))
      case first =>
       have H:=HC15.out;clear HC15
       by_cases c20:(A9.length:Int) > 0
       ·rw [if_pos c20] at H;have c20b0:decide (0 < (A9.length:Int))=true:=decide_eq_true c20;have c20b1:decide (0 < A9.length)=true:=decide_eq_true (by omega);clear c20;(first|rw [c20b0]|rw [c20b1]|(simp only [i64_w,i32_w];rw [c20b0])|skip);replace H:=ob H;obtain ⟨Am,A210,H⟩:=H
        try dsimp only at H
        have A21:=Aside0.mk A210;clear A210;have H':=Aside0.mk H;clear H;have hcz22__:=c6_ A7;have hfz22__:=f_ A7;go_wp2_with (first|((with_reducible refine gate_callee (f:=28) rfl ?_);refine goesL_ (some 41) rfl rfl Tryz.func28 (by kernel_rfl) rfl #[.slice (some ad125) l0.length c0,.int .i64 ((rd_T52 l0 A1).f3)] rfl ml ?_;(with_reducible refine (spec_l05Below.calls k1 _ _ l0 ((rd_T52 l0 A1).f3) Am _ ?side1 ?side2 A21.out).mono ?_);(case side1=>exact cw (Kd.C_below HR0.out HB.out));(case side2=>exact HC0.out);rintro e w' ⟨rfl,⟨nd,rfl⟩⟩;refine ⟨_,rfl,?_⟩;(try (rw [drewN_self w18];generalize hq_:World.drewN w18 _=w18;have n0_:Aside0 (Kd.R (Kd.int .i64) 3 w18 w.heap.size (fun _=>True) (.slice Ap A9.length Aq) A9):=⟨by rw [← hq_];exact (ra Ai)⟩;have n1_:Aside0 (Kd.R k31 31 w18 w.heap.size (fun _=>True) v112 Ad):=⟨by rw [← hq_];exact (ra Aa)⟩;have n2_:Aside0 (Kd.R k52 52 w18 w.heap.size (fun k_=>k_≠A6) u6 Ab):=⟨by rw [← hq_];exact (by (with_reducible repeat (first|apply Kd.R_alloc|apply Kd.R_drewN|apply Kd.R_drew));exact Kd.R_mono A8.out (fun _ hk=>hk.2))⟩;have n3_:Aside0 (w18.heap[A6]? = some (.cells #[.int .i64 ((rd_T52 l0 A1).f0),.int .i64 ((rd_T52 l0 A1).f1),.int .i64 ((rd_T52 l0 A1).f2),.int .i64 ((rd_T52 l0 A1).f3),.int .i64 ((rd_T52 l0 A1).f4),.int .i64 ((rd_T52 l0 A1).f5)] 52 (0,0))):=⟨by rw [← hq_];exact (dr A7)⟩;have n4_:Aside0 (Below w.heap.size w w18):=⟨by rw [← hq_];exact (tb HB)⟩;clear Ai Aa A8 A7 HB hq_;have Ai:=n0_;have Aa:=n1_;have A8:=n2_;have A7:=n3_;have HB:=n4_;clear n0_ n1_ n2_ n3_ n4_));(try (have hcz23__:=c6_ A7;have hfz23__:=f_ A7))));go_meet
        case rel=>exact ⟨_,(Am),H',⟨by have:=HK1.out;first|omega|exact Nat.le_refl _⟩,⟨by exact rfs (Kd.R_types Aa.out A7.out (by decide))⟩,⟨by (with_reducible repeat (first|apply Kd.R_alloc|apply Kd.R_drewN|apply Kd.R_drew));exact Kd.R_mono (Kd.R_far (p:=⟨A6,3,none⟩) (Kd.R_mono A8.out (fun k_ hk=>(⟨hk,by first|exact hk.2|exact hk⟩:_∧k_≠A6))) (fun _ hk=>hk.2) (.int .i64 Am)) (fun _ hk=>by first|exact hk.2|exact hk.1.2)⟩,⟨by exact rfs (Kd.R_types Ai.out A7.out (by decide))⟩,⟨by (with_reducible repeat (first|refine blk_drewN ?_ _|refine blk_drew ?_|refine blk_alloc ?_ _));refine blk_put (cs:=#[.int .i64 ((rd_T52 l0 A1).f0),.int .i64 ((rd_T52 l0 A1).f1),.int .i64 ((rd_T52 l0 A1).f2),.int .i64 ((rd_T52 l0 A1).f3),.int .i64 ((rd_T52 l0 A1).f4),.int .i64 ((rd_T52 l0 A1).f5)]) ?_ 3 _ rfl;(with_reducible repeat (first|refine blk_drewN ?_ _|refine blk_drew ?_|refine blk_alloc ?_ _));exact A7.out⟩,⟨by exact tb HB⟩⟩
       ·rw [if_neg c20] at H;have c20b0:decide (0 < (A9.length:Int))=false:=decide_eq_false c20;have c20b1:decide (0 < A9.length)=false:=decide_eq_false (by omega);clear c20;(first|rw [c20b0]|rw [c20b1]|(simp only [i64_w,i32_w];rw [c20b0])|skip);have H':=Aside0.mk H;clear H;go_wp2;go_meet
        case rel=>exact ⟨_,((rd_T52 l0 A1).f3),H',⟨by have:=HK1.out;first|omega|exact Nat.le_refl _⟩,⟨ra Aa⟩,⟨by (with_reducible repeat (first|apply Kd.R_alloc|apply Kd.R_drewN|apply Kd.R_drew));exact Kd.R_mono A8.out (fun _ hk=>hk.2)⟩,⟨ra Ai⟩,⟨dr A7⟩,⟨by exact tb HB⟩⟩
      case rest =>
       clear HC15;(try clear c1);(try clear p1);(try clear q1);(try clear hx1);(try clear c2);(try clear p2);(try clear c3);(try clear p6);(try clear c7);(try clear c12);(try clear c12b0);(try clear p12);(try clear q12);(try clear hx12);(try clear c13);(try clear c13b0);(try clear c20);(try clear c20b0);(try clear c20b1);(try clear hcz17__);(try clear hcz22__);(try clear hcz23__);(try clear hfz17__);(try clear hfz22__);(try clear hfz23__);(try clear hx125_0);(try clear hx125_1);(try clear hx125_2);(try clear hx125_3);(try clear hx125_4);(try clear hx125_5);(try clear p125);(try clear p2);(try clear p6);(try clear q125);obtain ⟨kq,A3,HA,HJ14,Aa,A8,Ae,A7,HB⟩:=hcut
       cases kq with
       | zero=>exact absurd HA.out (by simp [spec_Front.j1])
       | succ kj14 =>
        have H:=HA.out;clear HA;simp only [spec_Front.j1] at H
        by_cases c24:(A9.length:Int) > 1
        ·rw [if_pos c24] at H;have c24b0:decide (1 < (A9.length:Int))=true:=decide_eq_true c24;have c24b1:decide (1 < A9.length)=true:=decide_eq_true (by omega);clear c24;replace H:=ob H;obtain ⟨Ac,A250,H⟩:=H
         try dsimp only at H
         have A25:=Aside0.mk A250;clear A250
         by_cases c26:(A9.length:Int) > 2
         ·rw [if_pos c26] at H;have c26b0:decide (2 < (A9.length:Int))=true:=decide_eq_true c26;have c26b1:decide (2 < A9.length)=true:=decide_eq_true (by omega);clear c26;replace H:=ob H;obtain ⟨Af,A270,H⟩:=H
          try dsimp only at H
          have A27:=Aside0.mk A270;clear A270
          by_cases c28:Ab.length < 2932031007402
          ·rw [if_pos c28] at H;have LMc28:=Aside0.mk c28;clear c28;obtain ⟨y133,hy133⟩:∃ y_:List (S52),y_=(Ab ++ [(⟨((rd_T52 l0 A1).f0),((rd_T52 l0 A1).f1),((rd_T52 l0 A1).f2),A3,Ac,Af⟩:S52)]):=⟨_,rfl⟩;replace H:(spec_Front.l0 kj14 l0 Ad y133 (wrap64 (A1 + 1)))=some (r1,r2,r3):=hy_ hy133 H;have Ny133:=Aside0.mk hy133;clear hy133;have H':=Aside0.mk H;clear H;have hcz29__:=c6_ A7;have hfz29__:=f_ A7
           go_wp2_with (first|((with_reducible refine gate_callee (f:=28) rfl ?_);refine goesL_ (some 49) rfl rfl Tryz.func28 (by kernel_rfl) rfl #[.slice (some ad125) l0.length c0,.int .i64 ((rd_T52 l0 A1).f4)] rfl ml ?_;(with_reducible refine (spec_l05Below.calls kj14 _ _ l0 ((rd_T52 l0 A1).f4) Ac _ ?side1 ?side2 A25.out).mono ?_);(case side1=>exact cw (Kd.C_below HR0.out HB.out));(case side2=>exact HC0.out);rintro e w' ⟨rfl,⟨nd,rfl⟩⟩;refine ⟨_,rfl,?_⟩;(try (rw [drewN_self wc];generalize hq_:World.drewN wc _=wc;have n0_:Aside0 (Kd.R k31 31 wc w.heap.size (fun _=>True) v112 Ad):=⟨by rw [← hq_];exact (ra Aa)⟩;have n1_:Aside0 (Kd.R k52 52 wc w.heap.size (fun k_=>k_≠A6) u6 Ab):=⟨by rw [← hq_];exact (ra A8)⟩;have n2_:Aside0 (Kd.R (Kd.int .i64) 3 wc w.heap.size (fun _=>True) (.slice Ap A9.length Aq) A9):=⟨by rw [← hq_];exact (ra Ae)⟩;have n3_:Aside0 (wc.heap[A6]? = some (.cells #[.int .i64 ((rd_T52 l0 A1).f0),.int .i64 ((rd_T52 l0 A1).f1),.int .i64 ((rd_T52 l0 A1).f2),.int .i64 A3,.int .i64 ((rd_T52 l0 A1).f4),.int .i64 ((rd_T52 l0 A1).f5)] 52 (0,0))):=⟨by rw [← hq_];exact (dr A7)⟩;have n4_:Aside0 (Below w.heap.size w wc):=⟨by rw [← hq_];exact (tb HB)⟩;clear Aa A8 Ae A7 HB hq_;have Aa:=n0_;have A8:=n1_;have Ae:=n2_;have A7:=n3_;have HB:=n4_;clear n0_ n1_ n2_ n3_ n4_));(try (have hcz30__:=c6_ A7;have hfz30__:=f_ A7)))|((with_reducible refine gate_callee (f:=28) rfl ?_);refine goesL_ (some 57) rfl rfl Tryz.func28 (by kernel_rfl) rfl #[.slice (some ad125) l0.length c0,.int .i64 ((rd_T52 l0 A1).f5)] rfl ml ?_;(with_reducible refine (spec_l05Below.calls kj14 _ _ l0 ((rd_T52 l0 A1).f5) Af _ ?side1 ?side2 A27.out).mono ?_);(case side1=>exact Kd.C_below HR0.out (tb HB));(case side2=>exact HC0.out);rintro e w' ⟨rfl,⟨nd,rfl⟩⟩;refine ⟨_,rfl,?_⟩)|((with_reducible refine gate_builtin (b := .append) (xs:=#[.tmp 59,.tmp 61]) rfl ?_);at_builtin;refine Kd.R_append k52 (w0:=w) w.heap.size rfl (.tmp 59) (.tmp 61) 24 52 (.agg #[(.int .i64 0),(.int .i64 0),(.int .i64 0),(.int .i64 0),(.int .i64 0),(.int .i64 0)]) 48 rfl Tryz.underlying24 info52 rfl (by decide) (by omega) u6 Ab (⟨((rd_T52 l0 A1).f0),((rd_T52 l0 A1).f1),((rd_T52 l0 A1).f2),A3,Ac,Af⟩:S52) [.int .i64 ((rd_T52 l0 A1).f0),.int .i64 ((rd_T52 l0 A1).f1),.int .i64 ((rd_T52 l0 A1).f2),.int .i64 A3,.int .i64 Ac,.int .i64 Af] (fun k_=>k_≠A6) (fun _=>False) rfl (by first|(go_simp;done)|(go_simp;rfl)) ?aP (fun _ hk=>hk.elim) ?aF ?aO ?aB ?aS ?aL ?_;(case aP=>exact k52_mkM _ _ _ (⟨((rd_T52 l0 A1).f0),((rd_T52 l0 A1).f1),((rd_T52 l0 A1).f2),A3,Ac,Af⟩:S52));(case aB=>exact (tb HB));(case aF=>exact (fun k_ hk=>Kd.freshB (g:=A6) (o := .cells #[.int .i64 ((rd_T52 l0 A1).f0),.int .i64 ((rd_T52 l0 A1).f1),.int .i64 ((rd_T52 l0 A1).f2),.int .i64 A3,.int .i64 Ac,.int .i64 Af] 52 (0,0)) (by (with_reducible repeat (first|refine blk_drewN ?_ _|refine blk_drew ?_|refine blk_alloc ?_ _));refine blk_put (cs:=#[.int .i64 ((rd_T52 l0 A1).f0),.int .i64 ((rd_T52 l0 A1).f1),.int .i64 ((rd_T52 l0 A1).f2),.int .i64 A3,.int .i64 Ac,.int .i64 ((rd_T52 l0 A1).f5)]) ?_ 5 _ rfl;(with_reducible repeat (first|refine blk_drewN ?_ _|refine blk_drew ?_|refine blk_alloc ?_ _));refine blk_put (cs:=#[.int .i64 ((rd_T52 l0 A1).f0),.int .i64 ((rd_T52 l0 A1).f1),.int .i64 ((rd_T52 l0 A1).f2),.int .i64 A3,.int .i64 ((rd_T52 l0 A1).f4),.int .i64 ((rd_T52 l0 A1).f5)]) ?_ 4 _ rfl;(with_reducible repeat (first|refine blk_drewN ?_ _|refine blk_drew ?_|refine blk_alloc ?_ _));exact A7.out) k_ hk));(case aO=>exact (by (with_reducible repeat (first|apply Kd.R_alloc|apply Kd.R_drewN|apply Kd.R_drew));exact Kd.R_mono (Kd.R_far (p:=⟨A6,5,none⟩) (Kd.R_far (p:=⟨A6,4,none⟩) (Kd.R_mono A8.out (fun k_ hk=>(⟨hk,hk⟩:_∧k_≠A6))) (fun _ hk=>hk.2) (.int .i64 Ac)) (fun _ hk=>hk.2) (.int .i64 Af)) (fun _ hk=>hk.1)));(case aS=>exact (below_size (tb HB)));(case aL=>have:=LMc28.out;omega);intro v134 w31 ho hb hg hat;rw [← Ny133.out] at ho;replace Aa:=Aside0.mk (Kd.R_over' (by (with_reducible repeat (first|apply Kd.R_alloc|apply Kd.R_drewN|apply Kd.R_drew));exact (Kd.R_mono (Kd.R_far (p:=⟨A6,5,none⟩) (Kd.R_far (p:=⟨A6,4,none⟩) (Kd.R_types Aa.out A7.out (by decide)) (fun _ hk=>hk.2) (.int .i64 Ac)) (fun _ hk=>hk.2) (.int .i64 Af)) (fun _ h_=>h_.1))) (Kd.R_typed (by (with_reducible repeat (first|apply Kd.R_alloc|apply Kd.R_drewN|apply Kd.R_drew));exact (Kd.R_mono (Kd.R_far (p:=⟨A6,5,none⟩) (Kd.R_far (p:=⟨A6,4,none⟩) (Kd.R_mono A8.out (fun k_ hk=>(⟨hk,hk⟩:_∧k_≠A6))) (fun _ hk=>hk.2) (.int .i64 Ac)) (fun _ hk=>hk.2) (.int .i64 Af)) (fun _ h_=>h_.1)))) (by decide) hg);replace Ae:=Aside0.mk (Kd.R_over' (by (with_reducible repeat (first|apply Kd.R_alloc|apply Kd.R_drewN|apply Kd.R_drew));exact (Kd.R_mono (Kd.R_far (p:=⟨A6,5,none⟩) (Kd.R_far (p:=⟨A6,4,none⟩) (Kd.R_types Ae.out A7.out (by decide)) (fun _ hk=>hk.2) (.int .i64 Ac)) (fun _ hk=>hk.2) (.int .i64 Af)) (fun _ h_=>h_.1))) (Kd.R_typed (by (with_reducible repeat (first|apply Kd.R_alloc|apply Kd.R_drewN|apply Kd.R_drew));exact (Kd.R_mono (Kd.R_far (p:=⟨A6,5,none⟩) (Kd.R_far (p:=⟨A6,4,none⟩) (Kd.R_mono A8.out (fun k_ hk=>(⟨hk,hk⟩:_∧k_≠A6))) (fun _ hk=>hk.2) (.int .i64 Ac)) (fun _ hk=>hk.2) (.int .i64 Af)) (fun _ h_=>h_.1)))) (by decide) hg);replace A7:=Aside0.mk (blk_grown (g:=A6) (o := .cells #[.int .i64 ((rd_T52 l0 A1).f0),.int .i64 ((rd_T52 l0 A1).f1),.int .i64 ((rd_T52 l0 A1).f2),.int .i64 A3,.int .i64 Ac,.int .i64 Af] 52 (0,0)) (by (with_reducible repeat (first|refine blk_drewN ?_ _|refine blk_drew ?_|refine blk_alloc ?_ _));refine blk_put (cs:=#[.int .i64 ((rd_T52 l0 A1).f0),.int .i64 ((rd_T52 l0 A1).f1),.int .i64 ((rd_T52 l0 A1).f2),.int .i64 A3,.int .i64 Ac,.int .i64 ((rd_T52 l0 A1).f5)]) ?_ 5 _ rfl;(with_reducible repeat (first|refine blk_drewN ?_ _|refine blk_drew ?_|refine blk_alloc ?_ _));refine blk_put (cs:=#[.int .i64 ((rd_T52 l0 A1).f0),.int .i64 ((rd_T52 l0 A1).f1),.int .i64 ((rd_T52 l0 A1).f2),.int .i64 A3,.int .i64 ((rd_T52 l0 A1).f4),.int .i64 ((rd_T52 l0 A1).f5)]) ?_ 4 _ rfl;(with_reducible repeat (first|refine blk_drewN ?_ _|refine blk_drew ?_|refine blk_alloc ?_ _));exact A7.out) hg (Kd.R_away A8.out (fun _ hk=>hk)));replace HB:=Aside0.mk (hb);have Av:=Aside0.mk (ho);clear A8;clear ho hb hg hat))
           go_roundg kj14
           case measure=>have:=HK1.out;have:=HJ14.out;omega
           case rel=>exact ⟨(y133),(wrap64 (A1 + 1)),(by first|rfl|(simp;done)|(simp [*];done)),H',⟨by have:=HK1.out;have:=HJ14.out;omega⟩,⟨ra Aa⟩,⟨by (with_reducible repeat (first|apply Kd.R_alloc|apply Kd.R_drewN|apply Kd.R_drew));exact Kd.R_mono Av.out (fun _ hk=>trivial)⟩,⟨by exact tb HB⟩⟩
          ·rw [if_neg c28] at H;exact absurd H (by simp)
         ·rw [if_neg c26] at H;have c26b0:decide (2 < (A9.length:Int))=false:=decide_eq_false c26;have c26b1:decide (2 < A9.length)=false:=decide_eq_false (by omega);clear c26
          by_cases c32:Ab.length < 2932031007402
          ·rw [if_pos c32] at H;have LMc32:=Aside0.mk c32;clear c32;obtain ⟨y136,hy136⟩:∃ y_:List (S52),y_=(Ab ++ [(⟨((rd_T52 l0 A1).f0),((rd_T52 l0 A1).f1),((rd_T52 l0 A1).f2),A3,Ac,((rd_T52 l0 A1).f5)⟩:S52)]):=⟨_,rfl⟩;replace H:(spec_Front.l0 kj14 l0 Ad y136 (wrap64 (A1 + 1)))=some (r1,r2,r3):=hy_ hy136 H;have Ny136:=Aside0.mk hy136;clear hy136;have H':=Aside0.mk H;clear H;have hcz33__:=c6_ A7;have hfz33__:=f_ A7
           go_wp2_with (first|((with_reducible refine gate_callee (f:=28) rfl ?_);refine goesL_ (some 49) rfl rfl Tryz.func28 (by kernel_rfl) rfl #[.slice (some ad125) l0.length c0,.int .i64 ((rd_T52 l0 A1).f4)] rfl ml ?_;(with_reducible refine (spec_l05Below.calls kj14 _ _ l0 ((rd_T52 l0 A1).f4) Ac _ ?side1 ?side2 A25.out).mono ?_);(case side1=>exact cw (Kd.C_below HR0.out HB.out));(case side2=>exact HC0.out);rintro e w' ⟨rfl,⟨nd,rfl⟩⟩;refine ⟨_,rfl,?_⟩;(try (rw [drewN_self wc];generalize hq_:World.drewN wc _=wc;have n0_:Aside0 (Kd.R k31 31 wc w.heap.size (fun _=>True) v112 Ad):=⟨by rw [← hq_];exact (ra Aa)⟩;have n1_:Aside0 (Kd.R k52 52 wc w.heap.size (fun k_=>k_≠A6) u6 Ab):=⟨by rw [← hq_];exact (ra A8)⟩;have n2_:Aside0 (Kd.R (Kd.int .i64) 3 wc w.heap.size (fun _=>True) (.slice Ap A9.length Aq) A9):=⟨by rw [← hq_];exact (ra Ae)⟩;have n3_:Aside0 (wc.heap[A6]? = some (.cells #[.int .i64 ((rd_T52 l0 A1).f0),.int .i64 ((rd_T52 l0 A1).f1),.int .i64 ((rd_T52 l0 A1).f2),.int .i64 A3,.int .i64 ((rd_T52 l0 A1).f4),.int .i64 ((rd_T52 l0 A1).f5)] 52 (0,0))):=⟨by rw [← hq_];exact (dr A7)⟩;have n4_:Aside0 (Below w.heap.size w wc):=⟨by rw [← hq_];exact (tb HB)⟩;clear Aa A8 Ae A7 HB hq_;have Aa:=n0_;have A8:=n1_;have Ae:=n2_;have A7:=n3_;have HB:=n4_;clear n0_ n1_ n2_ n3_ n4_));(try (have hcz34__:=c6_ A7;have hfz34__:=f_ A7)))|((with_reducible refine gate_builtin (b := .append) (xs:=#[.tmp 59,.tmp 61]) rfl ?_);at_builtin;refine Kd.R_append k52 (w0:=w) w.heap.size rfl (.tmp 59) (.tmp 61) 24 52 (.agg #[(.int .i64 0),(.int .i64 0),(.int .i64 0),(.int .i64 0),(.int .i64 0),(.int .i64 0)]) 48 rfl Tryz.underlying24 info52 rfl (by decide) (by omega) u6 Ab (⟨((rd_T52 l0 A1).f0),((rd_T52 l0 A1).f1),((rd_T52 l0 A1).f2),A3,Ac,((rd_T52 l0 A1).f5)⟩:S52) [.int .i64 ((rd_T52 l0 A1).f0),.int .i64 ((rd_T52 l0 A1).f1),.int .i64 ((rd_T52 l0 A1).f2),.int .i64 A3,.int .i64 Ac,.int .i64 ((rd_T52 l0 A1).f5)] (fun k_=>k_≠A6) (fun _=>False) rfl (by first|(go_simp;done)|(go_simp;rfl)) ?aP (fun _ hk=>hk.elim) ?aF ?aO ?aB ?aS ?aL ?_;(case aP=>exact k52_mkM _ _ _ (⟨((rd_T52 l0 A1).f0),((rd_T52 l0 A1).f1),((rd_T52 l0 A1).f2),A3,Ac,((rd_T52 l0 A1).f5)⟩:S52));(case aB=>exact (tb HB));(case aF=>exact (fun k_ hk=>Kd.freshB (g:=A6) (o := .cells #[.int .i64 ((rd_T52 l0 A1).f0),.int .i64 ((rd_T52 l0 A1).f1),.int .i64 ((rd_T52 l0 A1).f2),.int .i64 A3,.int .i64 Ac,.int .i64 ((rd_T52 l0 A1).f5)] 52 (0,0)) (by (with_reducible repeat (first|refine blk_drewN ?_ _|refine blk_drew ?_|refine blk_alloc ?_ _));refine blk_put (cs:=#[.int .i64 ((rd_T52 l0 A1).f0),.int .i64 ((rd_T52 l0 A1).f1),.int .i64 ((rd_T52 l0 A1).f2),.int .i64 A3,.int .i64 ((rd_T52 l0 A1).f4),.int .i64 ((rd_T52 l0 A1).f5)]) ?_ 4 _ rfl;(with_reducible repeat (first|refine blk_drewN ?_ _|refine blk_drew ?_|refine blk_alloc ?_ _));exact A7.out) k_ hk));(case aO=>exact (by (with_reducible repeat (first|apply Kd.R_alloc|apply Kd.R_drewN|apply Kd.R_drew));exact Kd.R_mono (Kd.R_far (p:=⟨A6,4,none⟩) (Kd.R_mono A8.out (fun k_ hk=>(⟨hk,hk⟩:_∧k_≠A6))) (fun _ hk=>hk.2) (.int .i64 Ac)) (fun _ hk=>hk.1)));(case aS=>exact (below_size (tb HB)));(case aL=>have:=LMc32.out;omega);intro v137 w35 ho hb hg hat;rw [← Ny136.out] at ho;replace Aa:=Aside0.mk (Kd.R_over' (by (with_reducible repeat (first|apply Kd.R_alloc|apply Kd.R_drewN|apply Kd.R_drew));exact (Kd.R_mono (Kd.R_far (p:=⟨A6,4,none⟩) (Kd.R_types Aa.out A7.out (by decide)) (fun _ hk=>hk.2) (.int .i64 Ac)) (fun _ h_=>h_.1))) (Kd.R_typed (by (with_reducible repeat (first|apply Kd.R_alloc|apply Kd.R_drewN|apply Kd.R_drew));exact (Kd.R_mono (Kd.R_far (p:=⟨A6,4,none⟩) (Kd.R_mono A8.out (fun k_ hk=>(⟨hk,hk⟩:_∧k_≠A6))) (fun _ hk=>hk.2) (.int .i64 Ac)) (fun _ h_=>h_.1)))) (by decide) hg);replace Ae:=Aside0.mk (Kd.R_over' (by (with_reducible repeat (first|apply Kd.R_alloc|apply Kd.R_drewN|apply Kd.R_drew));exact (Kd.R_mono (Kd.R_far (p:=⟨A6,4,none⟩) (Kd.R_types Ae.out A7.out (by decide)) (fun _ hk=>hk.2) (.int .i64 Ac)) (fun _ h_=>h_.1))) (Kd.R_typed (by (with_reducible repeat (first|apply Kd.R_alloc|apply Kd.R_drewN|apply Kd.R_drew));exact (Kd.R_mono (Kd.R_far (p:=⟨A6,4,none⟩) (Kd.R_mono A8.out (fun k_ hk=>(⟨hk,hk⟩:_∧k_≠A6))) (fun _ hk=>hk.2) (.int .i64 Ac)) (fun _ h_=>h_.1)))) (by decide) hg);replace A7:=Aside0.mk (blk_grown (g:=A6) (o := .cells #[.int .i64 ((rd_T52 l0 A1).f0),.int .i64 ((rd_T52 l0 A1).f1),.int .i64 ((rd_T52 l0 A1).f2),.int .i64 A3,.int .i64 Ac,.int .i64 ((rd_T52 l0 A1).f5)] 52 (0,0)) (by (with_reducible repeat (first|refine blk_drewN ?_ _|refine blk_drew ?_|refine blk_alloc ?_ _));refine blk_put (cs:=#[.int .i64 ((rd_T52 l0 A1).f0),.int .i64 ((rd_T52 l0 A1).f1),.int .i64 ((rd_T52 l0 A1).f2),.int .i64 A3,.int .i64 ((rd_T52 l0 A1).f4),.int .i64 ((rd_T52 l0 A1).f5)]) ?_ 4 _ rfl;(with_reducible repeat (first|refine blk_drewN ?_ _|refine blk_drew ?_|refine blk_alloc ?_ _));exact A7.out) hg (Kd.R_away A8.out (fun _ hk=>hk)));replace HB:=Aside0.mk (hb);have Aw:=Aside0.mk (ho);clear A8;clear ho hb hg hat))
           go_roundg kj14
           case measure=>have:=HK1.out;have:=HJ14.out;omega
           case rel=>exact ⟨(y136),(wrap64 (A1 + 1)),(by first|rfl|(simp;done)|(simp [*];done)),H',⟨by have:=HK1.out;have:=HJ14.out;omega⟩,⟨ra Aa⟩,⟨by (with_reducible repeat (first|apply Kd.R_alloc|apply Kd.R_drewN|apply Kd.R_drew));exact Kd.R_mono Aw.out (fun _ hk=>trivial)⟩,⟨by exact tb HB⟩⟩
          ·rw [if_neg c32] at H;exact absurd H (by simp)
        ·rw [if_neg c24] at H;have c24b0:decide (1 < (A9.length:Int))=false:=decide_eq_false c24;have c24b1:decide (1 < A9.length)=false:=decide_eq_false (by omega);clear c24
         by_cases c36:(A9.length:Int) > 2
         ·rw [if_pos c36] at H;have c36b0:decide (2 < (A9.length:Int))=true:=decide_eq_true c36;have c36b1:decide (2 < A9.length)=true:=decide_eq_true (by omega);clear c36;replace H:=ob H;obtain ⟨Ag,A370,H⟩:=H
          try dsimp only at H
          have A37:=Aside0.mk A370;clear A370
          by_cases c38:Ab.length < 2932031007402
          ·rw [if_pos c38] at H;have LMc38:=Aside0.mk c38;clear c38;obtain ⟨y140,hy140⟩:∃ y_:List (S52),y_=(Ab ++ [(⟨((rd_T52 l0 A1).f0),((rd_T52 l0 A1).f1),((rd_T52 l0 A1).f2),A3,((rd_T52 l0 A1).f4),Ag⟩:S52)]):=⟨_,rfl⟩;replace H:(spec_Front.l0 kj14 l0 Ad y140 (wrap64 (A1 + 1)))=some (r1,r2,r3):=hy_ hy140 H;have Ny140:=Aside0.mk hy140;clear hy140;have H':=Aside0.mk H;clear H;have hcz39__:=c6_ A7;have hfz39__:=f_ A7
           go_wp2_with (first|((with_reducible refine gate_callee (f:=28) rfl ?_);refine goesL_ (some 57) rfl rfl Tryz.func28 (by kernel_rfl) rfl #[.slice (some ad125) l0.length c0,.int .i64 ((rd_T52 l0 A1).f5)] rfl ml ?_;(with_reducible refine (spec_l05Below.calls kj14 _ _ l0 ((rd_T52 l0 A1).f5) Ag _ ?side1 ?side2 A37.out).mono ?_);(case side1=>exact cw (Kd.C_below HR0.out HB.out));(case side2=>exact HC0.out);rintro e w' ⟨rfl,⟨nd,rfl⟩⟩;refine ⟨_,rfl,?_⟩;(try (rw [drewN_self wc];generalize hq_:World.drewN wc _=wc;have n0_:Aside0 (Kd.R k31 31 wc w.heap.size (fun _=>True) v112 Ad):=⟨by rw [← hq_];exact (ra Aa)⟩;have n1_:Aside0 (Kd.R k52 52 wc w.heap.size (fun k_=>k_≠A6) u6 Ab):=⟨by rw [← hq_];exact (ra A8)⟩;have n2_:Aside0 (Kd.R (Kd.int .i64) 3 wc w.heap.size (fun _=>True) (.slice Ap A9.length Aq) A9):=⟨by rw [← hq_];exact (ra Ae)⟩;have n3_:Aside0 (wc.heap[A6]? = some (.cells #[.int .i64 ((rd_T52 l0 A1).f0),.int .i64 ((rd_T52 l0 A1).f1),.int .i64 ((rd_T52 l0 A1).f2),.int .i64 A3,.int .i64 ((rd_T52 l0 A1).f4),.int .i64 ((rd_T52 l0 A1).f5)] 52 (0,0))):=⟨by rw [← hq_];exact (dr A7)⟩;have n4_:Aside0 (Below w.heap.size w wc):=⟨by rw [← hq_];exact (tb HB)⟩;clear Aa A8 Ae A7 HB hq_;have Aa:=n0_;have A8:=n1_;have Ae:=n2_;have A7:=n3_;have HB:=n4_;clear n0_ n1_ n2_ n3_ n4_));(try (have hcz40__:=c6_ A7;have hfz40__:=f_ A7)))|((with_reducible refine gate_builtin (b := .append) (xs:=#[.tmp 59,.tmp 61]) rfl ?_);at_builtin;refine Kd.R_append k52 (w0:=w) w.heap.size rfl (.tmp 59) (.tmp 61) 24 52 (.agg #[(.int .i64 0),(.int .i64 0),(.int .i64 0),(.int .i64 0),(.int .i64 0),(.int .i64 0)]) 48 rfl Tryz.underlying24 info52 rfl (by decide) (by omega) u6 Ab (⟨((rd_T52 l0 A1).f0),((rd_T52 l0 A1).f1),((rd_T52 l0 A1).f2),A3,((rd_T52 l0 A1).f4),Ag⟩:S52) [.int .i64 ((rd_T52 l0 A1).f0),.int .i64 ((rd_T52 l0 A1).f1),.int .i64 ((rd_T52 l0 A1).f2),.int .i64 A3,.int .i64 ((rd_T52 l0 A1).f4),.int .i64 Ag] (fun k_=>k_≠A6) (fun _=>False) rfl (by first|(go_simp;done)|(go_simp;rfl)) ?aP (fun _ hk=>hk.elim) ?aF ?aO ?aB ?aS ?aL ?_;(case aP=>exact k52_mkM _ _ _ (⟨((rd_T52 l0 A1).f0),((rd_T52 l0 A1).f1),((rd_T52 l0 A1).f2),A3,((rd_T52 l0 A1).f4),Ag⟩:S52));(case aB=>exact (tb HB));(case aF=>exact (fun k_ hk=>Kd.freshB (g:=A6) (o := .cells #[.int .i64 ((rd_T52 l0 A1).f0),.int .i64 ((rd_T52 l0 A1).f1),.int .i64 ((rd_T52 l0 A1).f2),.int .i64 A3,.int .i64 ((rd_T52 l0 A1).f4),.int .i64 Ag] 52 (0,0)) (by (with_reducible repeat (first|refine blk_drewN ?_ _|refine blk_drew ?_|refine blk_alloc ?_ _));refine blk_put (cs:=#[.int .i64 ((rd_T52 l0 A1).f0),.int .i64 ((rd_T52 l0 A1).f1),.int .i64 ((rd_T52 l0 A1).f2),.int .i64 A3,.int .i64 ((rd_T52 l0 A1).f4),.int .i64 ((rd_T52 l0 A1).f5)]) ?_ 5 _ rfl;(with_reducible repeat (first|refine blk_drewN ?_ _|refine blk_drew ?_|refine blk_alloc ?_ _));exact A7.out) k_ hk));(case aO=>exact (by (with_reducible repeat (first|apply Kd.R_alloc|apply Kd.R_drewN|apply Kd.R_drew));exact Kd.R_mono (Kd.R_far (p:=⟨A6,5,none⟩) (Kd.R_mono A8.out (fun k_ hk=>(⟨hk,hk⟩:_∧k_≠A6))) (fun _ hk=>hk.2) (.int .i64 Ag)) (fun _ hk=>hk.1)));(case aS=>exact (below_size (tb HB)));(case aL=>have:=LMc38.out;omega);intro v141 w41 ho hb hg hat;rw [← Ny140.out] at ho;replace Aa:=Aside0.mk (Kd.R_over' (by (with_reducible repeat (first|apply Kd.R_alloc|apply Kd.R_drewN|apply Kd.R_drew));exact (Kd.R_mono (Kd.R_far (p:=⟨A6,5,none⟩) (Kd.R_types Aa.out A7.out (by decide)) (fun _ hk=>hk.2) (.int .i64 Ag)) (fun _ h_=>h_.1))) (Kd.R_typed (by (with_reducible repeat (first|apply Kd.R_alloc|apply Kd.R_drewN|apply Kd.R_drew));exact (Kd.R_mono (Kd.R_far (p:=⟨A6,5,none⟩) (Kd.R_mono A8.out (fun k_ hk=>(⟨hk,hk⟩:_∧k_≠A6))) (fun _ hk=>hk.2) (.int .i64 Ag)) (fun _ h_=>h_.1)))) (by decide) hg);replace Ae:=Aside0.mk (Kd.R_over' (by (with_reducible repeat (first|apply Kd.R_alloc|apply Kd.R_drewN|apply Kd.R_drew));exact (Kd.R_mono (Kd.R_far (p:=⟨A6,5,none⟩) (Kd.R_types Ae.out A7.out (by decide)) (fun _ hk=>hk.2) (.int .i64 Ag)) (fun _ h_=>h_.1))) (Kd.R_typed (by (with_reducible repeat (first|apply Kd.R_alloc|apply Kd.R_drewN|apply Kd.R_drew));exact (Kd.R_mono (Kd.R_far (p:=⟨A6,5,none⟩) (Kd.R_mono A8.out (fun k_ hk=>(⟨hk,hk⟩:_∧k_≠A6))) (fun _ hk=>hk.2) (.int .i64 Ag)) (fun _ h_=>h_.1)))) (by decide) hg);replace A7:=Aside0.mk (blk_grown (g:=A6) (o := .cells #[.int .i64 ((rd_T52 l0 A1).f0),.int .i64 ((rd_T52 l0 A1).f1),.int .i64 ((rd_T52 l0 A1).f2),.int .i64 A3,.int .i64 ((rd_T52 l0 A1).f4),.int .i64 Ag] 52 (0,0)) (by (with_reducible repeat (first|refine blk_drewN ?_ _|refine blk_drew ?_|refine blk_alloc ?_ _));refine blk_put (cs:=#[.int .i64 ((rd_T52 l0 A1).f0),.int .i64 ((rd_T52 l0 A1).f1),.int .i64 ((rd_T52 l0 A1).f2),.int .i64 A3,.int .i64 ((rd_T52 l0 A1).f4),.int .i64 ((rd_T52 l0 A1).f5)]) ?_ 5 _ rfl;(with_reducible repeat (first|refine blk_drewN ?_ _|refine blk_drew ?_|refine blk_alloc ?_ _));exact A7.out) hg (Kd.R_away A8.out (fun _ hk=>hk)));replace HB:=Aside0.mk (hb);have Ax:=Aside0.mk (ho);clear A8;clear ho hb hg hat))
           go_roundg kj14
           case measure=>have:=HK1.out;have:=HJ14.out;omega
           case rel=>exact ⟨(y140),(wrap64 (A1 + 1)),(by first|rfl|(simp;done)|(simp [*];done)),H',⟨by have:=HK1.out;have:=HJ14.out;omega⟩,⟨ra Aa⟩,⟨by (with_reducible repeat (first|apply Kd.R_alloc|apply Kd.R_drewN|apply Kd.R_drew));exact Kd.R_mono Ax.out (fun _ hk=>trivial)⟩,⟨by exact tb HB⟩⟩
          ·rw [if_neg c38] at H;exact absurd H (by simp)
         ·rw [if_neg c36] at H;have c36b0:decide (2 < (A9.length:Int))=false:=decide_eq_false c36;have c36b1:decide (2 < A9.length)=false:=decide_eq_false (by omega);clear c36
          by_cases c42:Ab.length < 2932031007402
          ·rw [if_pos c42] at H;have LMc42:=Aside0.mk c42;clear c42;obtain ⟨y143,hy143⟩:∃ y_:List (S52),y_=(Ab ++ [(⟨((rd_T52 l0 A1).f0),((rd_T52 l0 A1).f1),((rd_T52 l0 A1).f2),A3,((rd_T52 l0 A1).f4),((rd_T52 l0 A1).f5)⟩:S52)]):=⟨_,rfl⟩;replace H:(spec_Front.l0 kj14 l0 Ad y143 (wrap64 (A1 + 1)))=some (r1,r2,r3):=hy_ hy143 H;have Ny143:=Aside0.mk hy143;clear hy143;have H':=Aside0.mk H;clear H;have hcz43__:=c6_ A7;have hfz43__:=f_ A7;go_wp2_with (first|((with_reducible refine gate_builtin (b := .append) (xs:=#[.tmp 59,.tmp 61]) rfl ?_);at_builtin;refine Kd.R_append k52 (w0:=w) w.heap.size rfl (.tmp 59) (.tmp 61) 24 52 (.agg #[(.int .i64 0),(.int .i64 0),(.int .i64 0),(.int .i64 0),(.int .i64 0),(.int .i64 0)]) 48 rfl Tryz.underlying24 info52 rfl (by decide) (by omega) u6 Ab (⟨((rd_T52 l0 A1).f0),((rd_T52 l0 A1).f1),((rd_T52 l0 A1).f2),A3,((rd_T52 l0 A1).f4),((rd_T52 l0 A1).f5)⟩:S52) [.int .i64 ((rd_T52 l0 A1).f0),.int .i64 ((rd_T52 l0 A1).f1),.int .i64 ((rd_T52 l0 A1).f2),.int .i64 A3,.int .i64 ((rd_T52 l0 A1).f4),.int .i64 ((rd_T52 l0 A1).f5)] (fun k_=>k_≠A6) (fun _=>False) rfl rfl ?aP (fun _ hk=>hk.elim) ?aF ?aO ?aB ?aS ?aL ?_;(case aP=>exact k52_mkM _ _ _ (⟨((rd_T52 l0 A1).f0),((rd_T52 l0 A1).f1),((rd_T52 l0 A1).f2),A3,((rd_T52 l0 A1).f4),((rd_T52 l0 A1).f5)⟩:S52));(case aB=>exact (tb HB));(case aF=>exact (fun k_ hk=>Kd.freshB (g:=A6) (o := .cells #[.int .i64 ((rd_T52 l0 A1).f0),.int .i64 ((rd_T52 l0 A1).f1),.int .i64 ((rd_T52 l0 A1).f2),.int .i64 A3,.int .i64 ((rd_T52 l0 A1).f4),.int .i64 ((rd_T52 l0 A1).f5)] 52 (0,0)) (dr A7) k_ hk));(case aO=>exact (ra A8));(case aS=>exact (below_size (tb HB)));(case aL=>have:=LMc42.out;omega);intro v144 w44 ho hb hg hat;rw [← Ny143.out] at ho;replace Aa:=Aside0.mk (Kd.R_over' (ra Aa) (Kd.R_typed (ra A8)) (by decide) hg);replace Ae:=Aside0.mk (Kd.R_over' (ra Ae) (Kd.R_typed (ra A8)) (by decide) hg);replace A7:=Aside0.mk (blk_grown (g:=A6) (o := .cells #[.int .i64 ((rd_T52 l0 A1).f0),.int .i64 ((rd_T52 l0 A1).f1),.int .i64 ((rd_T52 l0 A1).f2),.int .i64 A3,.int .i64 ((rd_T52 l0 A1).f4),.int .i64 ((rd_T52 l0 A1).f5)] 52 (0,0)) (dr A7) hg (Kd.R_away A8.out (fun _ hk=>hk)));replace HB:=Aside0.mk (hb);have Ay:=Aside0.mk (ho);clear A8;clear ho hb hg hat));go_roundg kj14
           case measure=>have:=HK1.out;have:=HJ14.out;omega
           case rel=>exact ⟨(y143),(wrap64 (A1 + 1)),(by first|rfl|(simp;done)|(simp [*];done)),H',⟨by have:=HK1.out;have:=HJ14.out;omega⟩,⟨ra Aa⟩,⟨by (with_reducible repeat (first|apply Kd.R_alloc|apply Kd.R_drewN|apply Kd.R_drew));exact Kd.R_mono Ay.out (fun _ hk=>trivial)⟩,⟨by exact tb HB⟩⟩
          ·rw [if_neg c42] at H;exact absurd H (by simp)
     ·rw [if_neg c13] at H;exact absurd H (by simp)
    ·rw [if_neg c12] at H;have c12b0:decide (A1 < (l0.length:Int))=false:=decide_eq_false c12;clear c12;replace H:=ob H;obtain ⟨Al,A450,H⟩:=H
     try dsimp only at H
     have A45:=Aside0.mk A450;clear A450;obtain ⟨ji46,hji46⟩:∃ j_:Int,(wrap64 (Al + 1))=j_:=⟨_,rfl⟩
     replace H:(if 0≤(ji46) then (if (ji46)≤(Ab.length:Int) then ((spec_Prune.f k1 (Ab.take ((ji46):Int).toNat)).bind fun Ak=>(some (Ad,Ak,true))) else (none)) else (none))=some (r1,r2,r3):=by first|(rw [hji46] at H;exact H)|(simp only [hji46] at H ⊢;exact H)
     (try rw [hji46] at A45)
     have hji46w:(IntKind.i64.wrap (Al + 1))=ji46:=(i64_w _).trans hji46
     by_cases c47:0≤(ji46)
     ·rw [if_pos c47] at H;have c47b0:=eq_true c47;have c47b1:decide (0≤(ji46))=true:=decide_eq_true c47;clear c47
      by_cases c48:(ji46)≤(Ab.length:Int)
      ·rw [if_pos c48] at H;have c48b0:=eq_true c48;have c48b1:decide ((ji46)≤(Ab.length:Int))=true:=decide_eq_true c48;clear c48;obtain ⟨y118,hy118⟩:∃ y_:List (S52),y_=(Ab.take ((ji46):Int).toNat):=⟨_,rfl⟩;replace H:((spec_Prune.f k1 y118).bind fun Ak=>(some (Ad,Ak,true)))=some (r1,r2,r3):=hy_ hy118 H;have Ny118:=Aside0.mk hy118;clear hy118;replace H:=ob H;obtain ⟨Ak,A490,H⟩:=H;replace H:(some (Ad,Ak,true))=some (r1,r2,r3):=H;have A49:=Aside0.mk A490;clear A490;simp only [Option.some.injEq,Prod.mk.injEq] at H;obtain ⟨rfl,rfl,rfl⟩:=H;go_wp2_with (first|((with_reducible refine gate_callee (f:=28) rfl ?_);refine goesL_ (some 69) rfl rfl Tryz.func28 (by kernel_rfl) rfl #[.slice A0 l0.length c0,.int .i64 (wrap64 ((l0.length:Int) - 1))] rfl ml ?_;(with_reducible refine (spec_l05Below.calls k1 _ _ l0 (wrap64 ((l0.length:Int) - 1)) Al _ ?side1 ?side2 A45.out).mono ?_);(case side1=>exact cw (Kd.C_below HR0.out HB.out));(case side2=>exact HC0.out);rintro e w' ⟨rfl,⟨nd,rfl⟩⟩;refine ⟨_,rfl,?_⟩;obtain ⟨At,As,eo51⟩:=Kd.R_slice A8.out;subst eo51;have q50:((ji46):Int)≤((Ab.length:Int):Int):=od;obtain ⟨i050,hi050,_,hsz50,_⟩:=info_parts info52;have hroom50:Ab.length≤As:=(Kd.R_reads' A8.out).2.1;have hC50:Kd.C k52 _ At Ab.length Ab:=(Kd.R_reads' A8.out).2.2;have hcut50:=cut_to (P:=Tryz.prog) 24 52 .i64 Tryz.underlying24 hi050 At Ab.length As (ji46) (od) q50 hroom50;have hr50:=Kd.C_take (m:=((ji46):Int).toNat) hC50 (by omega);have hy50:y118.length=((ji46):Int).toNat:=(by rw [Ny118.out,List.length_take];omega);rw [← Ny118.out] at hr50;rw [← hy50] at hcut50;have HR121:=Aside0.mk hr50;have HC121:=Aside0.mk (show y118.length≤As from by omega);clear hr50 hC50 hroom50 hi050 hsz50;have KY50:=Aside0.mk hy50;clear hy50;have KL50:=Aside0.mk (show ((ji46):Int).toNat≤Ab.length from by omega);replace q50:=eq_true q50)|((with_reducible refine gate_callee (f:=29) rfl ?_);refine goesL_ (some 72) rfl rfl Tryz.func29 (by kernel_rfl) rfl #[.slice At y118.length As] rfl ml ?_;(with_reducible refine (spec_Prune.calls k1 _ _ y118 Ak _ ?side1 ?side2 A49.out).mono ?_);(case side1=>repeat (first|exact (by repeat (first|(with_reducible exact HR121.out)|(with_reducible refine Kd.C_alloc ?_ _)|(with_reducible refine Kd.C_drewN ?_ _)|(with_reducible refine Kd.C_drew ?_)|exact HR121.out))|(with_reducible refine Kd.C_alloc ?_ _)|(with_reducible refine Kd.C_drewN ?_ _)|(with_reducible refine Kd.C_drew ?_)));(case side2=>exact HC121.out);rintro e w52 ⟨v123,rfl,ho0,hb⟩;refine ⟨_,rfl,?_⟩;replace Aa:=Aside0.mk (Kd.R_below (ra Aa) hb);have Az:=Aside0.mk (Kd.R_lower (Kd.R_new' ho0 (Kd.R_lt (ra A8))) (below_size (tb HB)));replace A8:=Aside0.mk (Kd.R_elder' (ra A8) (Kd.R_base ho0) hb);replace HR121:=Aside0.mk (Kd.C_below (by repeat (first|(with_reducible exact HR121.out)|(with_reducible refine Kd.C_alloc ?_ _)|(with_reducible refine Kd.C_drewN ?_ _)|(with_reducible refine Kd.C_drew ?_)|exact HR121.out)) hb);replace HB:=Aside0.mk (below_step (tb HB) hb);(try clear hb);(try clear hb2);(try clear hk);(try clear hi);(try clear ho0)));go_ret3;exact ⟨_,_,by first|rfl|(simp [errW_none,errW_some] <;> rfl)|(simp only [← hji46];first|rfl|(simp [errW_none,errW_some] <;> rfl))|(simp [*,errW_none,errW_some] <;> rfl),ra Aa,by (with_reducible repeat (first|apply Kd.R_alloc|apply Kd.R_drewN|apply Kd.R_drew));exact Kd.R_mono Az.out (fun _ hk=>trivial),tb HB⟩
      ·rw [if_neg c48] at H;exact absurd H (by simp)
     ·rw [if_neg c47] at H;exact absurd H (by simp)
 ·replace c3:=Bool.eq_false_iff.mpr c3;subst c3
  have H1:(some ((([]:List (S31))),(([]:List (S52))),false))=some (r1,r2,r3):=by rw [if_neg (show ¬ (false=true) by decide)] at H;exact H
  clear H;have H:=H1;clear H1;obtain ⟨y102,hy102⟩:∃ y_:List (S31),y_=(([]:List (S31))):=⟨_,rfl⟩;replace H:(some (y102,(([]:List (S52))),false))=some (r1,r2,r3):=hy_ hy102 H;have Ny102:=Aside0.mk hy102;clear hy102;obtain ⟨y105,hy105⟩:∃ y_:List (S52),y_=(([]:List (S52))):=⟨_,rfl⟩;replace H:(some (y102,y105,false))=some (r1,r2,r3):=hy_ hy105 H;have Ny105:=Aside0.mk hy105;clear hy105;simp only [Option.some.injEq,Prod.mk.injEq] at H;obtain ⟨rfl,rfl,rfl⟩:=H
  go_enter Tryz.func7,Tryz.ntmps7
  go_wp2_with (first|((with_reducible refine gate_callee (f:=24) rfl ?_);refine goesL_ (some 11) rfl rfl Tryz.func24 (by kernel_rfl) rfl #[.slice A0 l0.length c0] rfl ml ?_;(with_reducible refine (spec_Sentence.calls k _ _ l0 false _ ?side1 ?side2 A2.out).mono ?_);(case side1=>exact cw HR0.out);(case side2=>exact HC0.out);rintro e w53 ⟨rfl,hb⟩;refine ⟨_,rfl,?_⟩;replace HB:=Aside0.mk (below_step (tb HB) hb);(try clear hb);(try clear hb2);(try clear hk);(try clear hi))|((with_reducible refine gate_dst (N:=13) rfl ?_);refine Kd.R_lit k31 _ 31 ?hg (N:=13) ?hd (xs:=([]:List (S31))) (inner:=[]) (ok:=fun _=>True) (okp:=fun _=>True) ?hr ?hp (fun _ hk=>hk) trivial (Below.refl _ _) (Nat.le_refl _) (by simp) ?_;(case hd=>rfl);(case hg=>rfl);(case hr=>first|(go_simp;done)|(go_simp;rfl));(case hp=>exact (Reps.none _ _));intro v103 w54 ho55 hb hg_ hnew_;clear hg_ hnew_;(first|rw [← Ny102.out] at ho55|(simp only [Int.reduceToNat] at ho55;rw [← Ny102.out] at ho55));have Ar:=Aside0.mk (Kd.R_lower ho55 (below_size (tb HB)));replace HB:=Aside0.mk (below_step (tb HB) hb);clear hb ho55)|((with_reducible refine gate_dst (N:=14) rfl ?_);refine Kd.R_lit k52 _ 52 ?hg (N:=14) ?hd (xs:=([]:List (S52))) (inner:=[]) (ok:=fun _=>True) (okp:=fun _=>True) ?hr ?hp (fun _ hk=>hk) trivial (Below.refl _ _) (Nat.le_refl _) (by simp) ?_;(case hd=>rfl);(case hg=>rfl);(case hr=>first|(go_simp;done)|(go_simp;rfl));(case hp=>exact (Reps.none _ _));intro v106 w56 ho57 hb hg_ hnew_;clear hg_ hnew_;(first|rw [← Ny105.out] at ho57|(simp only [Int.reduceToNat] at ho57;rw [← Ny105.out] at ho57));replace Ar:=Aside0.mk (Kd.R_below (ra Ar) hb);have B0:=Aside0.mk (Kd.R_lower ho57 (below_size (tb HB)));replace HB:=Aside0.mk (below_step (tb HB) hb);clear hb ho57));go_ret3;exact ⟨_,_,er,ra Ar,ra B0,tb HB⟩
def spec_l04Zeros.l0:Nat→List Int→Int→Option (List Int)
 | 0,_,_=>none
 | k + 1,x1,x2=>if x2 < 8 then (if x1.length < 17592186044416 then (spec_l04Zeros.l0 k (x1 ++ [0]) (wrap64 (x2 + 1))) else (none)) else (some x1)
def spec_l04Zeros.f (k:Nat)  : Option (List Int):=spec_l04Zeros.l0 k (([]:List Int)) 0
theorem spec_l04Zeros.calls (k:Nat)  (r:List Int) (w:World) (h:spec_l04Zeros.f k=some r) :
  Calls Tryz.prog 35 #[] w fun e w'=>∃ v0_:Value,e = .returned (v0_)∧Kd.R (Kd.int .i64) 3 w' w.heap.size (fun _=>True) v0_ r∧Below w.heap.size w w':=by
 have HB:=Aside0.mk (Below.refl w.heap.size w);have H:(spec_l04Zeros.l0 k (([]:List Int)) 0)=some r:=h;clear h;obtain ⟨y101,hy101⟩:∃ y_:List Int,y_=(([]:List Int)):=⟨_,rfl⟩;replace H:(spec_l04Zeros.l0 k y101 0)=some r:=hy_ hy101 H;have Ny101:=Aside0.mk hy101;clear hy101;have H':=Aside0.mk H;clear H
 go_enter Tryz.func35,Tryz.ntmps35
 go_wp2_with (first|((with_reducible refine gate_dst (N:=3) rfl ?_);refine Kd.R_lit (Kd.int .i64) _ 3 ?hg (N:=3) ?hd (xs:=([]:List Int)) (inner:=[]) (ok:=fun _=>True) (okp:=fun _=>True) ?hr ?hp (fun _ hk=>hk) trivial (Below.refl _ _) (Nat.le_refl _) (by simp) ?_;(case hd=>rfl);(case hg=>rfl);(case hr=>first|(go_simp;done)|(go_simp;rfl));(case hp=>exact (Reps.none _ _));intro v102 w1 ho2 hb hg_ hnew_;clear hg_ hnew_;(first|rw [← Ny101.out] at ho2|(simp only [Int.reduceToNat] at ho2;rw [← Ny101.out] at ho2));have A3:=Aside0.mk (Kd.R_lower ho2 (below_size (tb HB)));replace HB:=Aside0.mk (below_step (tb HB) hb);clear hb ho2))
 go_loopg [1,2] k (fun kq v1 v2 w'=>∃ (A1:List Int) (A0:Int),v2 = .int .i64 A0∧Aside0 (spec_l04Zeros.l0 kq A1 A0=some r)∧Aside0 (kq≤k)∧Aside0 (Kd.R (Kd.int .i64) 3 w' w.heap.size (fun _=>True) v1 A1)∧Aside0 (Below w.heap.size w w'))
 case atStart=>exact ⟨(y101),(0),(by first|rfl|(simp;done)|(simp [*];done)),H',⟨Nat.le_refl _⟩,⟨ra A3⟩,⟨by exact tb HB⟩⟩
 case round =>
  clear H';(try clear p2);obtain ⟨A1,A0,rfl,HA,HK1,A2,HB⟩:=hrel
  cases gk with
  | zero=>exact absurd HA.out (by simp [spec_l04Zeros.l0])
  | succ k1 =>
   have H:=HA.out;clear HA;simp only [spec_l04Zeros.l0] at H
   by_cases c3:A0 < 8
   ·rw [if_pos c3] at H;have c3b0:decide (A0 < 8)=true:=decide_eq_true c3;clear c3
    by_cases c4:A1.length < 17592186044416
    ·rw [if_pos c4] at H;have LMc4:=Aside0.mk c4;clear c4;obtain ⟨y104,hy104⟩:∃ y_:List Int,y_=(A1 ++ [0]):=⟨_,rfl⟩;replace H:(spec_l04Zeros.l0 k1 y104 (wrap64 (A0 + 1)))=some r:=hy_ hy104 H;have Ny104:=Aside0.mk hy104;clear hy104;have H':=Aside0.mk H;clear H;go_wp2_with (first|((with_reducible refine gate_builtin (b := .append) (xs:=#[.tmp 8,.tmp 9]) rfl ?_);at_builtin;refine Kd.R_append (Kd.int .i64) (w0:=w) w.heap.size rfl (.tmp 8) (.tmp 9) 42 3 (.int .i64 0) 8 rfl Tryz.underlying42 info3 rfl (by decide) (by omega) u1 A1 0 [.int .i64 0] (fun _=>True) (fun _=>False) rfl rfl ?aP (fun _ hk=>hk.elim) ?aF ?aO ?aB ?aS ?aL ?_;(case aP=>exact rfl);(case aB=>exact (tb HB));(case aF=>exact (fun _ _=>trivial));(case aO=>exact (ra A2));(case aS=>exact (below_size (tb HB)));(case aL=>have:=LMc4.out;omega);intro v105 w5 ho hb hg hat;rw [← Ny104.out] at ho;replace HB:=Aside0.mk (hb);have A4:=Aside0.mk (ho);clear A2;clear ho hb hg hat));go_roundg k1
     case measure=>have:=HK1.out;omega
     case rel=>exact ⟨(y104),(wrap64 (A0 + 1)),(by first|rfl|(simp;done)|(simp [*];done)),H',⟨by have:=HK1.out;omega⟩,⟨ra A4⟩,⟨by exact tb HB⟩⟩
    ·rw [if_neg c4] at H;exact absurd H (by simp)
   ·rw [if_neg c3] at H;have c3b0:decide (A0 < 8)=false:=decide_eq_false c3;clear c3;obtain rfl:=os H;go_wp2;go_ret;exact ⟨_,er,ra A2,tb HB⟩
mutual
def spec_FrontOk.j0:Nat→List (S31)→List (S52)→Bool→Option (Bool)
 | 0,_,_,_=>none
 | k + 1,x0,x1,x21=>if x21=true then (some false) else ((spec_l04Zeros.f k).bind fun t103=>(spec_FrontOk.l0 k x0 x1 t103 0))
def spec_FrontOk.l0:Nat→List (S31)→List (S52)→List Int→Int→Option (Bool)
 | 0,_,_,_,_=>none
 | k + 1,x0,x1,x5,x6=>if x6 < (x0.length:Int) then (if 0≤x6 then ((spec_l01In.f ((rd_T31 x0 x6).f1) 0 7).bind fun t107=>(if t107=true then ((spec_l01In.f ((rd_T31 x0 x6).f2) 1 8).bind fun t109=>(if t109=true then (if 0≤((rd_T31 x0 x6).f1) then (if ((rd_T31 x0 x6).f1) < (x5.length:Int) then (if (rd x5 ((rd_T31 x0 x6).f1))=0 then (spec_FrontOk.l0 k x0 x1 (x5.set (((rd_T31 x0 x6).f1):Int).toNat ((rd_T31 x0 x6).f2)) (wrap64 (x6 + 1))) else (some false)) else (none)) else (none)) else (some false))) else (some false))) else (none)) else ((spec_l02Reach.f k x1).bind fun t115=>(spec_FrontOk.l1 k x1 x5 t115 0))
def spec_FrontOk.l1:Nat→List (S52)→List Int→List Bool→Int→Option (Bool)
 | 0,_,_,_,_=>none
 | k + 1,x1,x5,x7,x8=>if x8 < (x1.length:Int) then (if 0≤x8 then ((spec_l02Quant.f ((rd_T52 x1 x8).f0)).bind fun t119=>(if t119=true then (some false) else (if x8 < (x7.length:Int) then (if rdOf false x7 x8=true then (if ((rd_T52 x1 x8).f0)=1 then (if 0≤((rd_T52 x1 x8).f2) then (if ((rd_T52 x1 x8).f2) < (x5.length:Int) then (if (rd x5 ((rd_T52 x1 x8).f2))=((rd_T52 x1 x8).f1) then (spec_FrontOk.l1 k x1 x5 x7 (wrap64 (x8 + 1))) else (some false)) else (none)) else (none)) else (spec_FrontOk.l1 k x1 x5 x7 (wrap64 (x8 + 1)))) else (spec_FrontOk.l1 k x1 x5 x7 (wrap64 (x8 + 1)))) else (none)))) else (none)) else (some true)
end
def spec_FrontOk.f (k:Nat) (l0:List (S31)) (l1:List (S52)):Option (Bool):=(spec_TermOk.f k l1).bind fun t101=>(if t101=true then (if 0≤(wrap64 ((l1.length:Int) - 1)) then (if (wrap64 ((l1.length:Int) - 1)) < (l1.length:Int) then (spec_FrontOk.j0 k l0 l1 (((rd_T52 l1 (wrap64 ((l1.length:Int) - 1))).f1) != 1)) else (none)) else (none)) else (spec_FrontOk.j0 k l0 l1 true))
theorem spec_FrontOk.calls (k:Nat) (A0:Option Addr) (c0:Nat) (l0:List (S31)) (A1:Option Addr) (c1:Nat) (l1:List (S52)) (r:Bool) (w:World) (hr0:Kd.C k31 w A0 l0.length l0) (hc0:l0.length≤c0) (hr1:Kd.C k52 w A1 l1.length l1) (hc1:l1.length≤c1) (h:spec_FrontOk.f k l0 l1=some r) :
  Calls Tryz.prog 32 #[.slice A0 l0.length c0,.slice A1 l1.length c1] w fun e w'=>e = .returned (.bool r)∧Below w.heap.size w w':=by
 have HR0:=Aside0.mk hr0;have HR1:=Aside0.mk hr1;have HC1:=Aside0.mk hc1;have HB:=Aside0.mk (Below.refl w.heap.size w);clear hr0 hc0 hr1 hc1;unfold spec_FrontOk.f at h;obtain ⟨t,ht,h⟩:=Option.bind_eq_some_iff.1 h;have HT:=Aside0.mk ht;clear ht
 cases t with
 | false =>
  rw [if_neg (by decide)] at h
  cases k with
  | zero=>cases h
  | succ k0 =>
  obtain rfl:=Option.some.inj h;clear h
  go_enter Tryz.func32,Tryz.ntmps32
  go_wp2_with (first|(go_at_call 55;(try simp only [i64_w,i32_w]);(with_reducible refine (spec_TermOk.calls _ _ c1 l1 _ _ (Kd.C_below HR1.out (tb HB)) HC1.out HT.out).mono ?_);rintro e w2 ⟨rfl,hb⟩;have HB2:=Aside0.mk (below_step (tb HB) hb);clear hb;(try replace hq:=ct_ HB2 hq)));go_ret;exact ⟨rfl,(by repeat (first|(with_reducible first|exact HB2.out|apply below_alloc|apply pw_below_drewN|apply below_drew1)|exact HB2.out))⟩
 | true =>
 rw [if_pos rfl] at h
 by_cases c3:0≤wrap64 ((l1.length:Int) - 1)
 case neg=>rw [if_neg c3] at h;cases h
 by_cases c4:wrap64 ((l1.length:Int) - 1) < (l1.length:Int)
 case neg=>rw [if_pos c3,if_neg c4] at h;cases h
 rw [if_pos c3,if_pos c4] at h;obtain ⟨ad,e_,_,hq,_⟩:=at_T52 HR1.out _ c3 c4;cases e_;have d3:decide (0≤wrap64 ((l1.length:Int) - 1))=true:=decide_eq_true c3;have d4:decide (wrap64 ((l1.length:Int) - 1) < (l1.length:Int))=true:=decide_eq_true c4;replace c3:=eq_true c3;replace c4:=eq_true c4
 cases k with
 | zero=>cases h
 | succ k0 =>
 cases b0:((rd_T52 l1 (wrap64 ((l1.length:Int) - 1))).f1 != 1) with
 | true =>
  rw [b0] at h;obtain rfl:=Option.some.inj h;clear h
  go_enter Tryz.func32,Tryz.ntmps32
  go_wp2_with (first|(go_at_call 55;(try simp only [i64_w,i32_w]);(with_reducible refine (spec_TermOk.calls _ _ c1 l1 _ _ (Kd.C_below HR1.out (tb HB)) HC1.out HT.out).mono ?_);rintro e w2 ⟨rfl,hb⟩;have HB2:=Aside0.mk (below_step (tb HB) hb);clear hb;(try replace hq:=ct_ HB2 hq)));go_ret;exact ⟨rfl,(by repeat (first|(with_reducible first|exact HB2.out|apply below_alloc|apply pw_below_drewN|apply below_drew1)|exact HB2.out))⟩
 | false =>
 rw [b0] at h;simp only [spec_FrontOk.j0,Bool.false_eq_true,if_false] at h;obtain ⟨ws0,hz,h⟩:=Option.bind_eq_some_iff.1 h;have HZ:=Aside0.mk (show spec_l04Zeros.f k0=some ws0 from hz);have HF:=Aside0.mk h;clear hz h
 go_enter Tryz.func32,Tryz.ntmps32
 go_wp2_with (first|(go_at_call 55;(try simp only [i64_w,i32_w]);(with_reducible refine (spec_TermOk.calls _ _ c1 l1 _ _ (Kd.C_below HR1.out (tb HB)) HC1.out HT.out).mono ?_);rintro e w2 ⟨rfl,hb⟩;have HB2:=Aside0.mk (below_step (tb HB) hb);clear hb;(try replace hq:=ct_ HB2 hq))|(go_at_call 35;(try simp only [i64_w,i32_w]);(with_reducible refine (spec_l04Zeros.calls _ _ _ HZ.out).mono ?_);rintro e w3 ⟨v5,rfl,ho,hb⟩;have HB3:=Aside0.mk (below_step (by repeat (first|(with_reducible first|exact HB2.out|apply below_alloc|apply pw_below_drewN|apply below_drew1)|exact HB2.out)) hb);have HO3:=Aside0.mk (Kd.R_lower ho (below_size (by repeat (first|(with_reducible first|exact HB2.out|apply below_alloc|apply pw_below_drewN|apply below_drew1)|exact HB2.out))));clear ho hb));clear hq c3 c4 d3 d4 b0;obtain ⟨Aw,cw,ew⟩:=Kd.R_slice HO3.out;subst ew
 go_loopg [6] k0 (fun kq v6 wr=>∃ (i:Int) (ws:List Int),v6 = .int .i64 i∧Aside0 (spec_FrontOk.l0 kq l0 l1 ws i=some r)∧Aside0 (kq≤k0)∧Aside0 (ws.length=ws0.length)∧Aside0 (Kd.R (Kd.int .i64) 3 wr w.heap.size (fun _=>True) (.slice Aw ws0.length cw) ws)∧Aside0 (Below w.heap.size w wr))
 case atStart=>exact ⟨0,ws0,rfl,HF,⟨Nat.le_refl _⟩,⟨rfl⟩,⟨(ra HO3)⟩,⟨(by repeat (first|(with_reducible first|exact HB3.out|apply below_alloc|apply pw_below_drewN|apply below_drew1)|exact HB3.out))⟩⟩
 case round =>
  clear HF HO3 HB3 HB2 HB;obtain ⟨i,ws,rfl,HA,HK1,HL,HO,HB⟩:=hrel
  cases gk with
  | zero=>exact absurd HA.out (by simp [spec_FrontOk.l0])
  | succ k1 =>
  have H:=HA.out;clear HA;simp only [spec_FrontOk.l0,inB_f,Option.bind_some] at H
  by_cases c5:i < (l0.length:Int)
  ·rw [if_pos c5] at H
   by_cases c6:0≤i
   case neg=>rw [if_neg c6] at H;cases H
   rw [if_pos c6] at H;obtain ⟨ad2,e_,hx0,hx1,hx2⟩:=at_T31 HR0.out i c6 c5;cases e_;replace hx0:=ct_ HB hx0;replace hx1:=ct_ HB hx1;replace hx2:=ct_ HB hx2;have d5:decide (i < (l0.length:Int))=true:=decide_eq_true c5;have d6:decide (0≤i)=true:=decide_eq_true c6;replace c5:=eq_true c5;replace c6:=eq_true c6
   by_cases b1:inB (rd_T31 l0 i).f1 0 7=true
   case neg =>
    rw [if_neg b1] at H;replace b1:=Bool.eq_false_iff.2 b1;obtain rfl:=os H;clear H;go_wp2_with (first|(go_at_call 60;(try simp only [i64_w,i32_w]);(with_reducible refine (inC _ _ _ _).mono ?_);rintro e w' ⟨rfl,⟨nd,rfl⟩⟩;(try exact dd)));(repeat (go_quiet (first|(go_at_call 60;(try simp only [i64_w,i32_w]);(with_reducible refine (inC _ _ _ _).mono ?_);rintro e w' ⟨rfl,⟨nd,rfl⟩⟩;(try exact dd)));try go_wp2_with (first|(go_at_call 60;(try simp only [i64_w,i32_w]);(with_reducible refine (inC _ _ _ _).mono ?_);rintro e w' ⟨rfl,⟨nd,rfl⟩⟩;(try exact dd)))));go_ret;exact ⟨rfl,(tb HB)⟩
   rw [if_pos b1] at H
   by_cases b2:inB (rd_T31 l0 i).f2 1 8=true
   case neg =>
    rw [if_neg b2] at H;replace b2:=Bool.eq_false_iff.2 b2;obtain rfl:=os H;clear H;go_wp2_with (first|(go_at_call 60;(try simp only [i64_w,i32_w]);(with_reducible refine (inC _ _ _ _).mono ?_);rintro e w' ⟨rfl,⟨nd,rfl⟩⟩;(try exact dd)));(repeat (go_quiet (first|(go_at_call 60;(try simp only [i64_w,i32_w]);(with_reducible refine (inC _ _ _ _).mono ?_);rintro e w' ⟨rfl,⟨nd,rfl⟩⟩;(try exact dd)));try go_wp2_with (first|(go_at_call 60;(try simp only [i64_w,i32_w]);(with_reducible refine (inC _ _ _ _).mono ?_);rintro e w' ⟨rfl,⟨nd,rfl⟩⟩;(try exact dd)))));go_ret;exact ⟨rfl,(tb HB)⟩
   rw [if_pos b2] at H
   by_cases c7:0≤(rd_T31 l0 i).f1
   case neg=>rw [if_neg c7] at H;cases H
   by_cases c8:(rd_T31 l0 i).f1 < (ws.length:Int)
   case neg=>rw [if_pos c7,if_neg c8] at H;cases H
   rw [if_pos c7,if_pos c8] at H;obtain ⟨gw,cw2,ew,GW,_,_⟩:=Kd.R_form HO.out (by omega)
   obtain ⟨rfl,rfl⟩:Aw=some ⟨gw,0,none⟩∧cw=cw2:=by injection ew;exact ⟨by assumption,by assumption⟩
   clear ew;rw [HL.out] at c8;obtain ⟨hy,hyf⟩:=Kd.R_celln (0:Int) HO.out _ c7 c8
   change wr.cell? _=some (.int .i64 (rd ws (rd_T31 l0 i).f1)) at hy
   have d7:decide (0≤(rd_T31 l0 i).f1)=true:=decide_eq_true c7;have d8:decide ((rd_T31 l0 i).f1 < (ws0.length:Int))=true:=decide_eq_true c8;have d9:decide ((rd_T31 l0 i).f1 < (ws.length:Int))=true:=decide_eq_true (by rw [HL.out];exact c8);replace c7:=eq_true c7;replace c8:=eq_true c8
   by_cases b3:rd ws (rd_T31 l0 i).f1=0
   case neg =>
    rw [if_neg b3] at H;replace b3:=bne_iff_ne.2 b3;obtain rfl:=os H;clear H;go_wp2_with (first|(go_at_call 60;(try simp only [i64_w,i32_w]);(with_reducible refine (inC _ _ _ _).mono ?_);rintro e w' ⟨rfl,⟨nd,rfl⟩⟩;(try exact dd)));(repeat (go_quiet (first|(go_at_call 60;(try simp only [i64_w,i32_w]);(with_reducible refine (inC _ _ _ _).mono ?_);rintro e w' ⟨rfl,⟨nd,rfl⟩⟩;(try exact dd)));try go_wp2_with (first|(go_at_call 60;(try simp only [i64_w,i32_w]);(with_reducible refine (inC _ _ _ _).mono ?_);rintro e w' ⟨rfl,⟨nd,rfl⟩⟩;(try exact dd)))));go_ret;exact ⟨rfl,(tb HB)⟩
   rw [if_pos b3] at H;have b4:=bne_eq_false_iff_eq.2 b3;have H':=Aside0.mk H;have HO4:=Aside0.mk (Kd.R_putg (Kd.R_drewN (Kd.R_drew HO.out) 0) (rd_T31 l0 i).f1 (rd_T31 l0 i).f2).1;have GW_:=Aside0.mk GW;clear H b3 GW
   go_upto_region 9 with (first|(go_at_call 60;(try simp only [i64_w,i32_w]);(with_reducible refine (inC _ _ _ _).mono ?_);rintro e w' ⟨rfl,⟨nd,rfl⟩⟩;(try exact dd)))
   refine start_ (n:=13) (S:=fun w'=>∀ p,w'.cell? p=wr.cell? p) (ds:=[12]) (tF 0 13) (by kernel_rfl) rfl rfl (fun _=>rfl) (fun hHeld=>?_)
   repeat (first|(refine pureQ (v:=undef) (a':=?_) rfl rfl (by kernel_rfl) (fun _ _ _ h=>h) (Or.inr ⟨by rfl,rfl⟩) ?_ ?_;rotate_left;(simp only [Act.put,List.replicate,List.cons_append,List.nil_append,List.append_nil,List.setIfInBounds_toArray,List.set_cons_zero,List.set_cons_succ,i64_w,i32_w];rfl))|(refine pureQ (v:=?_) (a':=?_) rfl rfl (by kernel_rfl) (fun _ _ _ h=>h) (Or.inl ⟨by rfl,?_⟩) ?_ ?_;rotate_left;(intro w';go_simp;with_reducible rfl);rotate_left;(simp only [Act.put,List.replicate,List.cons_append,List.nil_append,List.append_nil,List.setIfInBounds_toArray,List.set_cons_zero,List.set_cons_succ,i64_w,i32_w];rfl))|(refine takeQ (v:=?_) (a':=?_) rfl rfl (by kernel_rfl) (fun _ _ _ h=>h) (Or.inl ⟨by rfl,?_⟩) hHeld ?_ ?_;rotate_left;(intro w' s0;go_simp;with_reducible rfl);rotate_left;(simp only [Act.put,List.replicate,List.cons_append,List.nil_append,List.append_nil,List.setIfInBounds_toArray,List.set_cons_zero,List.set_cons_succ,i64_w,i32_w];rfl)))
   refine lastQ (w1:=?_) rfl rfl (by kernel_rfl) (by decide) (by rfl) ?_ (by kernel_rfl) ?_;rotate_left;(go_simp;rfl);go_wp2;go_roundg k1
   case measure=>have:=HK1.out;omega
   case rel=>exact ⟨wrap64 (i + 1),_,rfl,H',⟨by have:=HK1.out;omega⟩,⟨by rw [List.length_set];exact HL.out⟩,⟨(Kd.R_putg (Kd.R_drew (Kd.R_drewN HO.out _)) (rd_T31 l0 i).f1 (rd_T31 l0 i).f2).1⟩,⟨below_set (below_drew1 (pw_below_drewN HB.out _)) GW_.out⟩⟩
  ·rw [if_neg c5] at H;have d5:decide (i < (l0.length:Int))=false:=decide_eq_false c5;obtain ⟨ms,hm,H⟩:=Option.bind_eq_some_iff.1 H;have HM:=Aside0.mk hm;have HF:=Aside0.mk H;clear c5 hm H;go_wp2_with (first|(go_at_call 57;(try simp only [i64_w,i32_w]);(with_reducible refine (spec_l02Reach.calls _ _ c1 l1 _ _ (Kd.C_below HR1.out (tb HB)) HC1.out HM.out).mono ?_);rintro e w5 ⟨v7,rfl,ho,hb⟩;have HBr:=Aside0.mk (below_step (tb HB) hb);have HMr:=Aside0.mk (Kd.R_lower ho (below_size (tb HB)));have HNe:=Aside0.mk (Kd.R_below (ra HO) hb);clear ho hb));obtain ⟨Am,cm,em⟩:=Kd.R_slice HMr.out;subst em
   go_loopg [8] k1 (fun kq v8 wr=>∃ (i:Int),v8 = .int .i64 i∧Aside0 (spec_FrontOk.l1 kq l1 ws ms i=some r)∧Aside0 (kq≤k1)∧Aside0 (Kd.R (Kd.int .i64) 3 wr w.heap.size (fun _=>True) (.slice Aw ws0.length cw) ws)∧Aside0 (Kd.R Kd.bool 4 wr w.heap.size (fun _=>True) (.slice Am ms.length cm) ms)∧Aside0 (Below w.heap.size w wr))
   case atStart=>exact ⟨0,rfl,HF,⟨Nat.le_refl _⟩,HNe,HMr,HBr⟩
   case round =>
    clear HF HNe HMr HBr HB HO d5 HK1;obtain ⟨i,rfl,HA,HK1,HO,HMs,HB⟩:=hrel
    cases gk with
    | zero=>exact absurd HA.out (by simp [spec_FrontOk.l1])
    | succ k2 =>
    have H:=HA.out;clear HA;simp only [spec_FrontOk.l1] at H
    by_cases c5:i < (l1.length:Int)
    ·rw [if_pos c5] at H
     by_cases c6:0≤i
     case neg=>rw [if_neg c6] at H;cases H
     rw [if_pos c6] at H;obtain ⟨ad2,e_,hx0,hx1,hx2,_⟩:=at_T52 HR1.out i c6 c5;obtain rfl:ad=ad2:=(by injection e_);clear e_;replace hx0:=ct_ HB hx0;replace hx1:=ct_ HB hx1;replace hx2:=ct_ HB hx2;have d5:decide (i < (l1.length:Int))=true:=decide_eq_true c5;have d6:decide (0≤i)=true:=decide_eq_true c6;obtain ⟨t,hq,H⟩:=Option.bind_eq_some_iff.1 H;have HQ:=Aside0.mk hq;clear hq;have C6:=Aside0.mk c6;replace c5:=eq_true c5;replace c6:=eq_true c6
     cases t with
     | true =>
      rw [if_pos rfl] at H;obtain rfl:=os H;clear H;go_wp2_with (first|(go_at_call 58;(try simp only [i64_w,i32_w]);(with_reducible refine (spec_l02Quant.calls (rd_T52 l1 i).f0 _ _ HQ.out).mono ?_);rintro e w' ⟨rfl,⟨nd,rfl⟩⟩;(try exact dd)));(repeat (go_quiet (first|(go_at_call 58;(try simp only [i64_w,i32_w]);(with_reducible refine (spec_l02Quant.calls (rd_T52 l1 i).f0 _ _ HQ.out).mono ?_);rintro e w' ⟨rfl,⟨nd,rfl⟩⟩;(try exact dd)));try go_wp2_with (first|(go_at_call 58;(try simp only [i64_w,i32_w]);(with_reducible refine (spec_l02Quant.calls (rd_T52 l1 i).f0 _ _ HQ.out).mono ?_);rintro e w' ⟨rfl,⟨nd,rfl⟩⟩;(try exact dd)))));go_ret;exact ⟨rfl,(tb HB)⟩
     | false =>
     rw [if_neg (by decide)] at H
     by_cases c7:i < (ms.length:Int)
     case neg=>rw [if_neg c7] at H;cases H
     rw [if_pos c7] at H;obtain ⟨am,e_,hm⟩:=Kd.at_bool (Kd.R_reads' HMs.out).2.2 i C6.out c7;cases e_;have d7:decide (i < (ms.length:Int))=true:=decide_eq_true c7;replace c7:=eq_true c7
     cases b1:rdOf false ms i with
     | false =>
      rw [if_neg (by rw [b1];decide)] at H;rw [b1] at hm;have H':=Aside0.mk H;clear H b1;go_wp2_with (first|(go_at_call 58;(try simp only [i64_w,i32_w]);(with_reducible refine (spec_l02Quant.calls (rd_T52 l1 i).f0 _ _ HQ.out).mono ?_);rintro e w' ⟨rfl,⟨nd,rfl⟩⟩;(try exact dd)));(repeat (go_quiet (first|(go_at_call 58;(try simp only [i64_w,i32_w]);(with_reducible refine (spec_l02Quant.calls (rd_T52 l1 i).f0 _ _ HQ.out).mono ?_);rintro e w' ⟨rfl,⟨nd,rfl⟩⟩;(try exact dd)));try go_wp2_with (first|(go_at_call 58;(try simp only [i64_w,i32_w]);(with_reducible refine (spec_l02Quant.calls (rd_T52 l1 i).f0 _ _ HQ.out).mono ?_);rintro e w' ⟨rfl,⟨nd,rfl⟩⟩;(try exact dd)))));go_roundg k2;(case measure=>have:=HK1.out;omega);(case rel=>exact ⟨wrap64 (i + 1),rfl,H',⟨by have:=HK1.out;omega⟩,⟨(ra HO)⟩,⟨(ra HMs)⟩,⟨(tb HB)⟩⟩)
     | true =>
     rw [if_pos b1] at H;rw [b1] at hm;clear b1
     by_cases c8:(rd_T52 l1 i).f0=1
     case neg =>
      rw [if_neg c8] at H;have b2:=beq_eq_false_iff_ne.2 c8;have H':=Aside0.mk H;clear H c8;go_wp2_with (first|(go_at_call 58;(try simp only [i64_w,i32_w]);(with_reducible refine (spec_l02Quant.calls (rd_T52 l1 i).f0 _ _ HQ.out).mono ?_);rintro e w' ⟨rfl,⟨nd,rfl⟩⟩;(try exact dd)));(repeat (go_quiet (first|(go_at_call 58;(try simp only [i64_w,i32_w]);(with_reducible refine (spec_l02Quant.calls (rd_T52 l1 i).f0 _ _ HQ.out).mono ?_);rintro e w' ⟨rfl,⟨nd,rfl⟩⟩;(try exact dd)));try go_wp2_with (first|(go_at_call 58;(try simp only [i64_w,i32_w]);(with_reducible refine (spec_l02Quant.calls (rd_T52 l1 i).f0 _ _ HQ.out).mono ?_);rintro e w' ⟨rfl,⟨nd,rfl⟩⟩;(try exact dd)))));go_roundg k2;(case measure=>have:=HK1.out;omega);(case rel=>exact ⟨wrap64 (i + 1),rfl,H',⟨by have:=HK1.out;omega⟩,⟨(ra HO)⟩,⟨(ra HMs)⟩,⟨(tb HB)⟩⟩)
     rw [if_pos c8] at H;have b2:=beq_iff_eq.2 c8;clear c8
     by_cases c9:0≤(rd_T52 l1 i).f2
     case neg=>rw [if_neg c9] at H;cases H
     by_cases c10:(rd_T52 l1 i).f2 < (ws.length:Int)
     case neg=>rw [if_pos c9,if_neg c10] at H;cases H
     rw [if_pos c9,if_pos c10] at H;obtain ⟨aw,e_,hy⟩:=Kd.at_int (Kd.R_reads' HO.out).2.2 _ c9 c10;cases e_;rw [HL.out] at c10;have d9:decide (0≤(rd_T52 l1 i).f2)=true:=decide_eq_true c9;have d10:decide ((rd_T52 l1 i).f2 < (ws0.length:Int))=true:=decide_eq_true c10;replace c9:=eq_true c9;replace c10:=eq_true c10
     by_cases c11:rd ws (rd_T52 l1 i).f2=(rd_T52 l1 i).f1
     ·rw [if_pos c11] at H;have b3:=bne_eq_false_iff_eq.2 c11;have H':=Aside0.mk H;clear H c11;go_wp2_with (first|(go_at_call 58;(try simp only [i64_w,i32_w]);(with_reducible refine (spec_l02Quant.calls (rd_T52 l1 i).f0 _ _ HQ.out).mono ?_);rintro e w' ⟨rfl,⟨nd,rfl⟩⟩;(try exact dd)));(repeat (go_quiet (first|(go_at_call 58;(try simp only [i64_w,i32_w]);(with_reducible refine (spec_l02Quant.calls (rd_T52 l1 i).f0 _ _ HQ.out).mono ?_);rintro e w' ⟨rfl,⟨nd,rfl⟩⟩;(try exact dd)));try go_wp2_with (first|(go_at_call 58;(try simp only [i64_w,i32_w]);(with_reducible refine (spec_l02Quant.calls (rd_T52 l1 i).f0 _ _ HQ.out).mono ?_);rintro e w' ⟨rfl,⟨nd,rfl⟩⟩;(try exact dd)))));go_roundg k2;(case measure=>have:=HK1.out;omega);(case rel=>exact ⟨wrap64 (i + 1),rfl,H',⟨by have:=HK1.out;omega⟩,⟨(ra HO)⟩,⟨(ra HMs)⟩,⟨(tb HB)⟩⟩)
     ·rw [if_neg c11] at H;have b3:=bne_iff_ne.2 c11;obtain rfl:=os H;clear H c11;go_wp2_with (first|(go_at_call 58;(try simp only [i64_w,i32_w]);(with_reducible refine (spec_l02Quant.calls (rd_T52 l1 i).f0 _ _ HQ.out).mono ?_);rintro e w' ⟨rfl,⟨nd,rfl⟩⟩;(try exact dd)));(repeat (go_quiet (first|(go_at_call 58;(try simp only [i64_w,i32_w]);(with_reducible refine (spec_l02Quant.calls (rd_T52 l1 i).f0 _ _ HQ.out).mono ?_);rintro e w' ⟨rfl,⟨nd,rfl⟩⟩;(try exact dd)));try go_wp2_with (first|(go_at_call 58;(try simp only [i64_w,i32_w]);(with_reducible refine (spec_l02Quant.calls (rd_T52 l1 i).f0 _ _ HQ.out).mono ?_);rintro e w' ⟨rfl,⟨nd,rfl⟩⟩;(try exact dd)))));go_ret;exact ⟨rfl,(tb HB)⟩
    ·rw [if_neg c5] at H;have d5:decide (i < (l1.length:Int))=false:=decide_eq_false c5;obtain rfl:=os H;clear H c5;go_wp2;go_ret;exact ⟨rfl,(tb HB)⟩
def spec_l05Bits.l0:Nat→List (S31)→Int→Int→Option (Int)
 | 0,_,_,_=>none
 | k + 1,x0,x3,x4=>if x4 < (x0.length:Int) then (if 0≤x4 then ((spec_l01In.f ((rd_T31 x0 x4).f2) 1 8).bind fun A3=>(if A3=true then (spec_l05Bits.l0 k x0 (wrap64 (x3 + ((rd_T31 x0 x4).f2))) (wrap64 (x4 + 1))) else (some 13))) else (none)) else (some x3)
def spec_l05Bits.f (k:Nat) (l0:List (S31)):Option (Int):=spec_l05Bits.l0 k l0 0 0
theorem spec_l05Bits.calls (k:Nat) (A0:Option Addr) (c0:Nat) (l0:List (S31)) (r:Int) (w:World) (hr0:Kd.C k31 w A0 l0.length l0) (hc0:l0.length≤c0) (h:spec_l05Bits.f k l0=some r) :
  Calls Tryz.prog 33 #[.slice A0 l0.length c0] w fun e w'=>e = .returned (.int .i64 r)∧Drawn0 w w':=by
 have HR0:=Aside0.mk hr0;have HC0:=Aside0.mk hc0;clear hr0 hc0;have H:(spec_l05Bits.l0 k l0 0 0)=some r:=h;clear h;have H':=Aside0.mk H;clear H
 go_enter Tryz.func33,Tryz.ntmps33
 go_wp2
 go_loopg [3,4] k (fun kq v3 v4 w'=>∃ (A2:Int) (A1:Int),v3 = .int .i64 A2∧v4 = .int .i64 A1∧Aside0 (spec_l05Bits.l0 kq l0 A2 A1=some r)∧Aside0 (kq≤k)∧Drawn0 w w')
 case atStart=>exact ⟨(0),(0),(by first|rfl|(simp;done)|(simp [*];done)),(by first|rfl|(simp;done)|(simp [*];done)),H',⟨Nat.le_refl _⟩,by repeat (first|exact Drawn0.refl _|apply Drawn0.step)⟩
 case round =>
  clear H';obtain ⟨A2,A1,rfl,rfl,HA,HK1,⟨m1,rfl⟩⟩:=hrel
  cases gk with
  | zero=>exact absurd HA.out (by simp [spec_l05Bits.l0])
  | succ k1 =>
   have H:=HA.out;clear HA;simp only [spec_l05Bits.l0] at H
   by_cases c2:A1 < (l0.length:Int)
   ·rw [if_pos c2] at H;have c2b0:decide (A1 < (l0.length:Int))=true:=decide_eq_true c2;clear c2
    by_cases c3:0≤A1
    ·rw [if_pos c3] at H;have c3b0:decide (0≤A1)=true:=decide_eq_true c3;clear c3;replace H:=ob H;obtain ⟨A3,A40,H⟩:=H
     try dsimp only at H
     have A4:=Aside0.mk A40;clear A40
     by_cases c5:A3=true
     ·subst c5
      have H1:(spec_l05Bits.l0 k1 l0 (wrap64 (A2 + ((rd_T31 l0 A1).f2))) (wrap64 (A1 + 1)))=some r:=by rw [if_pos rfl] at H;exact H
      clear H;have H:=H1;clear H1;have H':=Aside0.mk H;clear H;have p101:0≤(A1:Int):=od;have q101:A1 < (l0.length:Int):=od;obtain ⟨ad101,e101,hx101_0,hx101_1,hx101_2⟩:=at_T31 HR0.out A1 p101 q101;cases e101;replace p101:=eq_true p101;replace q101:=eq_true q101;go_wp2_with (first|((with_reducible refine gate_callee (f:=60) rfl ?_);refine goesL_ (some 16) rfl rfl Tryz.func60 (by kernel_rfl) rfl #[.int .i64 ((rd_T31 l0 A1).f2),.int .i64 1,.int .i64 8] rfl ml ?_;(with_reducible refine (spec_l01In.calls ((rd_T31 l0 A1).f2) 1 8 true _ A4.out).mono ?_);rintro e w' ⟨rfl,⟨nd,rfl⟩⟩;refine ⟨_,rfl,?_⟩;have p103:0≤(A1:Int):=od;have q103:A1 < (l0.length:Int):=od;obtain ⟨ad103,e103,hx103_0,hx103_1,hx103_2⟩:=at_T31 HR0.out A1 p103 q103;obtain rfl:ad101=ad103:=(by injection e103);replace p103:=eq_true p103;replace q103:=eq_true q103));go_roundg k1
      case measure=>have:=HK1.out;omega
      case rel=>exact ⟨(wrap64 (A2 + ((rd_T31 l0 A1).f2))),(wrap64 (A1 + 1)),(by first|rfl|(simp;done)|(simp [*];done)),(by first|rfl|(simp;done)|(simp [*];done)),H',⟨by have:=HK1.out;omega⟩,by repeat (first|exact Drawn0.refl _|apply Drawn0.step)⟩
     ·replace c5:=Bool.eq_false_iff.mpr c5;subst c5
      have H1:(some 13)=some r:=by rw [if_neg (show ¬ (false=true) by decide)] at H;exact H
      clear H;have H:=H1;clear H1;obtain rfl:=os H;have p101:0≤(A1:Int):=od;have q101:A1 < (l0.length:Int):=od;obtain ⟨ad101,e101,hx101_0,hx101_1,hx101_2⟩:=at_T31 HR0.out A1 p101 q101;cases e101;replace p101:=eq_true p101;replace q101:=eq_true q101;go_wp2_with (first|((with_reducible refine gate_callee (f:=60) rfl ?_);refine goesL_ (some 16) rfl rfl Tryz.func60 (by kernel_rfl) rfl #[.int .i64 ((rd_T31 l0 A1).f2),.int .i64 1,.int .i64 8] rfl ml ?_;(with_reducible refine (spec_l01In.calls ((rd_T31 l0 A1).f2) 1 8 false _ A4.out).mono ?_);rintro e w' ⟨rfl,⟨nd,rfl⟩⟩;refine ⟨_,rfl,?_⟩));go_ret;exact ⟨e1,dn⟩
    ·rw [if_neg c3] at H;exact absurd H (by simp)
   ·rw [if_neg c2] at H;have c2b0:decide (A1 < (l0.length:Int))=false:=decide_eq_false c2;clear c2;obtain rfl:=os H;go_wp2;go_ret;exact ⟨e1,dn⟩
def spec_l01Two.f (k:Nat) (a0:Int) (a1:Int) (a2:Int):Option (Bool):=(spec_WordOk.f k a0 a1).bind fun A1=>(if A1=true then ((spec_WordOk.f k a0 a2).bind fun A0=>(some A0)) else (some false))
theorem spec_l01Two.calls (k:Nat) (a0:Int) (a1:Int) (a2:Int) (r:Bool) (w:World) (h:spec_l01Two.f k a0 a1 a2=some r) :
  Calls Tryz.prog 134 #[.int .i64 a0,.int .i64 a1,.int .i64 a2] w fun e w'=>e = .returned (.bool r)∧Drawn0 w w':=by
 have H:((spec_WordOk.f k a0 a1).bind fun A1=>(if A1=true then ((spec_WordOk.f k a0 a2).bind fun A0=>(some A0)) else (some false)))=some r:=h;clear h;replace H:=ob H;obtain ⟨A1,A40,H⟩:=H;replace H:(if A1=true then ((spec_WordOk.f k a0 a2).bind fun A0=>(some A0)) else (some false))=some r:=H;have A4:=Aside0.mk A40;clear A40
 by_cases c5:A1=true
 ·subst c5
  have H1:((spec_WordOk.f k a0 a2).bind fun A0=>(some A0))=some r:=by rw [if_pos rfl] at H;exact H
  clear H;have H:=H1;clear H1;replace H:=ob H;obtain ⟨A0,A60,H⟩:=H;replace H:(some A0)=some r:=H;have A6:=Aside0.mk A60;clear A60;obtain rfl:=os H
  go_enter Tryz.func134,Tryz.ntmps134
  go_wp2_with (first|((with_reducible refine gate_callee (f:=96) rfl ?_);refine goesL_ (some 9) rfl rfl Tryz.func96 (by kernel_rfl) rfl #[.int .i64 a0,.int .i64 a1] rfl ml ?_;(with_reducible refine (spec_WordOk.calls k a0 a1 true _ A4.out).mono ?_);rintro e w' ⟨rfl,⟨nd,rfl⟩⟩;refine ⟨_,rfl,?_⟩)|(go_at_call 96;(try simp only [i64_w,i32_w]);(with_reducible refine (spec_WordOk.calls k a0 a2 A0 _ A6.out).mono ?_);rintro e w' ⟨rfl,⟨nd,rfl⟩⟩));go_ret;exact ⟨e1,dn⟩
 ·replace c5:=Bool.eq_false_iff.mpr c5;subst c5
  have H1:(some false)=some r:=by rw [if_neg (show ¬ (false=true) by decide)] at H;exact H
  clear H;have H:=H1;clear H1;obtain rfl:=os H
  go_enter Tryz.func134,Tryz.ntmps134
  go_wp2_with (first|((with_reducible refine gate_callee (f:=96) rfl ?_);refine goesL_ (some 9) rfl rfl Tryz.func96 (by kernel_rfl) rfl #[.int .i64 a0,.int .i64 a1] rfl ml ?_;(with_reducible refine (spec_WordOk.calls k a0 a1 false _ A4.out).mono ?_);rintro e w' ⟨rfl,⟨nd,rfl⟩⟩;refine ⟨_,rfl,?_⟩));go_ret;exact ⟨e1,dn⟩
def spec_Add.f (k:Nat) (a0:Int) (a1:Int) (a2:Int):Option (Int):=(spec_l01Two.f k a0 a1 a2).bind fun A1=>(if A1=true then ((spec_l01Pow2.f k a0).bind fun A0=>(if A0=0 then (none) else (some (Int.tmod (wrap64 (a1 + a2)) A0)))) else (some 0))
theorem spec_Add.calls (k:Nat) (a0:Int) (a1:Int) (a2:Int) (r:Int) (w:World) (h:spec_Add.f k a0 a1 a2=some r) :
  Calls Tryz.prog 122 #[.int .i64 a0,.int .i64 a1,.int .i64 a2] w fun e w'=>e = .returned (.int .i64 r)∧Drawn0 w w':=by
 have H:((spec_l01Two.f k a0 a1 a2).bind fun A1=>(if A1=true then ((spec_l01Pow2.f k a0).bind fun A0=>(if A0=0 then (none) else (some (Int.tmod (wrap64 (a1 + a2)) A0)))) else (some 0)))=some r:=h;clear h;replace H:=ob H;obtain ⟨A1,A40,H⟩:=H
 try dsimp only at H
 have A4:=Aside0.mk A40;clear A40
 by_cases c5:A1=true
 ·subst c5
  have H1:((spec_l01Pow2.f k a0).bind fun A0=>(if A0=0 then (none) else (some (Int.tmod (wrap64 (a1 + a2)) A0))))=some r:=by rw [if_pos rfl] at H;exact H
  clear H;have H:=H1;clear H1;replace H:=ob H;obtain ⟨A0,A60,H⟩:=H;replace H:(if A0=0 then (none) else (some (Int.tmod (wrap64 (a1 + a2)) A0)))=some r:=H;have A6:=Aside0.mk A60;clear A60
  by_cases c7:A0=0
  ·rw [if_pos c7] at H;exact absurd H (by simp)
  ·rw [if_neg c7] at H;have c7b0:(A0 == 0)=false:=beq_eq_false_iff_ne.mpr c7;have c7b1:(A0 != 0)=true:=bne_iff_ne.mpr c7;obtain rfl:=os H
   go_enter Tryz.func122,Tryz.ntmps122
   go_wp2_with (first|((with_reducible refine gate_callee (f:=134) rfl ?_);refine goesL_ (some 10) rfl rfl Tryz.func134 (by kernel_rfl) rfl #[.int .i64 a0,.int .i64 a1,.int .i64 a2] rfl ml ?_;(with_reducible refine (spec_l01Two.calls k a0 a1 a2 true _ A4.out).mono ?_);rintro e w' ⟨rfl,⟨nd,rfl⟩⟩;refine ⟨_,rfl,?_⟩)|((with_reducible refine gate_callee (f:=68) rfl ?_);refine goesL_ (some 16) rfl rfl Tryz.func68 (by kernel_rfl) rfl #[.int .i64 a0] rfl ml ?_;(with_reducible refine (spec_l01Pow2.calls k a0 A0 _ A6.out).mono ?_);rintro e w' ⟨rfl,⟨nd,rfl⟩⟩;refine ⟨_,rfl,?_⟩));go_ret;exact ⟨e1,dn⟩
 ·replace c5:=Bool.eq_false_iff.mpr c5;subst c5
  have H1:(some 0)=some r:=by rw [if_neg (show ¬ (false=true) by decide)] at H;exact H
  clear H;have H:=H1;clear H1;obtain rfl:=os H
  go_enter Tryz.func122,Tryz.ntmps122
  go_wp2_with (first|((with_reducible refine gate_callee (f:=134) rfl ?_);refine goesL_ (some 10) rfl rfl Tryz.func134 (by kernel_rfl) rfl #[.int .i64 a0,.int .i64 a1,.int .i64 a2] rfl ml ?_;(with_reducible refine (spec_l01Two.calls k a0 a1 a2 false _ A4.out).mono ?_);rintro e w' ⟨rfl,⟨nd,rfl⟩⟩;refine ⟨_,rfl,?_⟩));go_ret;exact ⟨e1,dn⟩
def spec_Div.f (k:Nat) (a0:Int) (a1:Int) (a2:Int):Option (Int):=(spec_l01Two.f k a0 a1 a2).bind fun A1=>(if A1=true then (if a2=0 then ((spec_l01Pow2.f k a0).bind fun A0=>(some (wrap64 (A0 - 1)))) else (some (wrap64 (Int.tdiv a1 a2)))) else (some 0))
theorem spec_Div.calls (k:Nat) (a0:Int) (a1:Int) (a2:Int) (r:Int) (w:World) (h:spec_Div.f k a0 a1 a2=some r) :
  Calls Tryz.prog 125 #[.int .i64 a0,.int .i64 a1,.int .i64 a2] w fun e w'=>e = .returned (.int .i64 r)∧Drawn0 w w':=by
 have H:((spec_l01Two.f k a0 a1 a2).bind fun A1=>(if A1=true then (if a2=0 then ((spec_l01Pow2.f k a0).bind fun A0=>(some (wrap64 (A0 - 1)))) else (some (wrap64 (Int.tdiv a1 a2)))) else (some 0)))=some r:=h;clear h;replace H:=ob H;obtain ⟨A1,A40,H⟩:=H
 try dsimp only at H
 have A4:=Aside0.mk A40;clear A40
 by_cases c5:A1=true
 ·subst c5
  have H1:(if a2=0 then ((spec_l01Pow2.f k a0).bind fun A0=>(some (wrap64 (A0 - 1)))) else (some (wrap64 (Int.tdiv a1 a2))))=some r:=by rw [if_pos rfl] at H;exact H
  clear H;have H:=H1;clear H1
  by_cases c6:a2=0
  ·rw [if_pos c6] at H;have c6b0:(a2 == 0)=true:=beq_iff_eq.mpr c6;have c6b1:(a2 != 0)=false:=bne_eq_false_iff_eq.mpr c6;clear c6;replace H:=ob H;obtain ⟨A0,A70,H⟩:=H;replace H:(some (wrap64 (A0 - 1)))=some r:=H;have A7:=Aside0.mk A70;clear A70;obtain rfl:=os H
   go_enter Tryz.func125,Tryz.ntmps125
   go_wp2_with (first|((with_reducible refine gate_callee (f:=134) rfl ?_);refine goesL_ (some 10) rfl rfl Tryz.func134 (by kernel_rfl) rfl #[.int .i64 a0,.int .i64 a1,.int .i64 a2] rfl ml ?_;(with_reducible refine (spec_l01Two.calls k a0 a1 a2 true _ A4.out).mono ?_);rintro e w' ⟨rfl,⟨nd,rfl⟩⟩;refine ⟨_,rfl,?_⟩)|((with_reducible refine gate_callee (f:=68) rfl ?_);refine goesL_ (some 15) rfl rfl Tryz.func68 (by kernel_rfl) rfl #[.int .i64 a0] rfl ml ?_;(with_reducible refine (spec_l01Pow2.calls k a0 A0 _ A7.out).mono ?_);rintro e w' ⟨rfl,⟨nd,rfl⟩⟩;refine ⟨_,rfl,?_⟩));go_ret;exact ⟨e1,dn⟩
  ·rw [if_neg c6] at H;have c6b0:(a2 == 0)=false:=beq_eq_false_iff_ne.mpr c6;have c6b1:(a2 != 0)=true:=bne_iff_ne.mpr c6;obtain rfl:=os H
   go_enter Tryz.func125,Tryz.ntmps125
   go_wp2_with (first|((with_reducible refine gate_callee (f:=134) rfl ?_);refine goesL_ (some 10) rfl rfl Tryz.func134 (by kernel_rfl) rfl #[.int .i64 a0,.int .i64 a1,.int .i64 a2] rfl ml ?_;(with_reducible refine (spec_l01Two.calls k a0 a1 a2 true _ A4.out).mono ?_);rintro e w' ⟨rfl,⟨nd,rfl⟩⟩;refine ⟨_,rfl,?_⟩));go_ret;exact ⟨e1,dn⟩
 ·replace c5:=Bool.eq_false_iff.mpr c5;subst c5
  have H1:(some 0)=some r:=by rw [if_neg (show ¬ (false=true) by decide)] at H;exact H
  clear H;have H:=H1;clear H1;obtain rfl:=os H
  go_enter Tryz.func125,Tryz.ntmps125
  go_wp2_with (first|((with_reducible refine gate_callee (f:=134) rfl ?_);refine goesL_ (some 10) rfl rfl Tryz.func134 (by kernel_rfl) rfl #[.int .i64 a0,.int .i64 a1,.int .i64 a2] rfl ml ?_;(with_reducible refine (spec_l01Two.calls k a0 a1 a2 false _ A4.out).mono ?_);rintro e w' ⟨rfl,⟨nd,rfl⟩⟩;refine ⟨_,rfl,?_⟩));go_ret;exact ⟨e1,dn⟩
def spec_Flip.f (k:Nat) (a0:Int) (a1:Int):Option (Int):=(spec_WordOk.f k a0 a1).bind fun A1=>(if A1=true then ((spec_l01Pow2.f k a0).bind fun A0=>(some (wrap64 ((wrap64 (A0 - 1)) - a1)))) else (some 0))
theorem spec_Flip.calls (k:Nat) (a0:Int) (a1:Int) (r:Int) (w:World) (h:spec_Flip.f k a0 a1=some r) :
  Calls Tryz.prog 121 #[.int .i64 a0,.int .i64 a1] w fun e w'=>e = .returned (.int .i64 r)∧Drawn0 w w':=by
 have H:((spec_WordOk.f k a0 a1).bind fun A1=>(if A1=true then ((spec_l01Pow2.f k a0).bind fun A0=>(some (wrap64 ((wrap64 (A0 - 1)) - a1)))) else (some 0)))=some r:=h;clear h;replace H:=ob H;obtain ⟨A1,A30,H⟩:=H;replace H:(if A1=true then ((spec_l01Pow2.f k a0).bind fun A0=>(some (wrap64 ((wrap64 (A0 - 1)) - a1)))) else (some 0))=some r:=H;have A3:=Aside0.mk A30;clear A30
 by_cases c4:A1=true
 ·subst c4
  have H1:((spec_l01Pow2.f k a0).bind fun A0=>(some (wrap64 ((wrap64 (A0 - 1)) - a1))))=some r:=by rw [if_pos rfl] at H;exact H
  clear H;have H:=H1;clear H1;replace H:=ob H;obtain ⟨A0,A50,H⟩:=H;replace H:(some (wrap64 ((wrap64 (A0 - 1)) - a1)))=some r:=H;have A5:=Aside0.mk A50;clear A50;obtain rfl:=os H
  go_enter Tryz.func121,Tryz.ntmps121
  go_wp2_with (first|((with_reducible refine gate_callee (f:=96) rfl ?_);refine goesL_ (some 7) rfl rfl Tryz.func96 (by kernel_rfl) rfl #[.int .i64 a0,.int .i64 a1] rfl ml ?_;(with_reducible refine (spec_WordOk.calls k a0 a1 true _ A3.out).mono ?_);rintro e w' ⟨rfl,⟨nd,rfl⟩⟩;refine ⟨_,rfl,?_⟩)|((with_reducible refine gate_callee (f:=68) rfl ?_);refine goesL_ (some 10) rfl rfl Tryz.func68 (by kernel_rfl) rfl #[.int .i64 a0] rfl ml ?_;(with_reducible refine (spec_l01Pow2.calls k a0 A0 _ A5.out).mono ?_);rintro e w' ⟨rfl,⟨nd,rfl⟩⟩;refine ⟨_,rfl,?_⟩));go_ret;exact ⟨e1,dn⟩
 ·replace c4:=Bool.eq_false_iff.mpr c4;subst c4
  have H1:(some 0)=some r:=by rw [if_neg (show ¬ (false=true) by decide)] at H;exact H
  clear H;have H:=H1;clear H1;obtain rfl:=os H
  go_enter Tryz.func121,Tryz.ntmps121
  go_wp2_with (first|((with_reducible refine gate_callee (f:=96) rfl ?_);refine goesL_ (some 7) rfl rfl Tryz.func96 (by kernel_rfl) rfl #[.int .i64 a0,.int .i64 a1] rfl ml ?_;(with_reducible refine (spec_WordOk.calls k a0 a1 false _ A3.out).mono ?_);rintro e w' ⟨rfl,⟨nd,rfl⟩⟩;refine ⟨_,rfl,?_⟩));go_ret;exact ⟨e1,dn⟩
def spec_l01Bool.f (a0:Bool):Option (Int):=if a0=true then (some 1) else (some 0)
theorem spec_l01Bool.calls (a0:Bool) (r:Int) (w:World) (h:spec_l01Bool.f a0=some r) :
  Calls Tryz.prog 129 #[.bool a0] w fun e w'=>e = .returned (.int .i64 r)∧Drawn0 w w':=by
 have H:(if a0=true then (some 1) else (some 0))=some r:=h;clear h
 by_cases c2:a0=true
 ·subst c2
  have H1:(some 1)=some r:=by rw [if_pos rfl] at H;exact H
  clear H;have H:=H1;clear H1;obtain rfl:=os H
  go_enter Tryz.func129,Tryz.ntmps129
  go_wp2;go_ret;exact ⟨e1,dn⟩
 ·replace c2:=Bool.eq_false_iff.mpr c2;subst c2
  have H1:(some 0)=some r:=by rw [if_neg (show ¬ (false=true) by decide)] at H;exact H
  clear H;have H:=H1;clear H1;obtain rfl:=os H
  go_enter Tryz.func129,Tryz.ntmps129
  go_wp2;go_ret;exact ⟨e1,dn⟩
def spec_Less.f (k:Nat) (a0:Int) (a1:Int) (a2:Int):Option (Int):=(spec_l01Two.f k a0 a1 a2).bind fun A2=>(if A2=true then ((spec_l01Bool.f (decide (a1 < a2))).bind fun A0=>(some A0)) else ((spec_l01Bool.f false).bind fun A1=>(some A1)))
theorem spec_Less.calls (k:Nat) (a0:Int) (a1:Int) (a2:Int) (r:Int) (w:World) (h:spec_Less.f k a0 a1 a2=some r) :
  Calls Tryz.prog 130 #[.int .i64 a0,.int .i64 a1,.int .i64 a2] w fun e w'=>e = .returned (.int .i64 r)∧Drawn0 w w':=by
 have H:((spec_l01Two.f k a0 a1 a2).bind fun A2=>(if A2=true then ((spec_l01Bool.f (decide (a1 < a2))).bind fun A0=>(some A0)) else ((spec_l01Bool.f false).bind fun A1=>(some A1))))=some r:=h;clear h;replace H:=ob H;obtain ⟨A2,A40,H⟩:=H
 try dsimp only at H
 have A4:=Aside0.mk A40;clear A40
 by_cases c5:A2=true
 ·subst c5
  have H1:((spec_l01Bool.f (decide (a1 < a2))).bind fun A0=>(some A0))=some r:=by rw [if_pos rfl] at H;exact H
  clear H;have H:=H1;clear H1;replace H:=ob H;obtain ⟨A0,A60,H⟩:=H;replace H:(some A0)=some r:=H;have A6:=Aside0.mk A60;clear A60;obtain rfl:=os H
  go_enter Tryz.func130,Tryz.ntmps130
  go_wp2_with (first|((with_reducible refine gate_callee (f:=134) rfl ?_);refine goesL_ (some 10) rfl rfl Tryz.func134 (by kernel_rfl) rfl #[.int .i64 a0,.int .i64 a1,.int .i64 a2] rfl ml ?_;(with_reducible refine (spec_l01Two.calls k a0 a1 a2 true _ A4.out).mono ?_);rintro e w' ⟨rfl,⟨nd,rfl⟩⟩;refine ⟨_,rfl,?_⟩)|((with_reducible refine gate_callee (f:=129) rfl ?_);refine goesL_ (some 16) rfl rfl Tryz.func129 (by kernel_rfl) rfl #[.bool (decide (a1 < a2))] rfl ml ?_;(with_reducible refine (spec_l01Bool.calls (decide (a1 < a2)) A0 _ A6.out).mono ?_);rintro e w' ⟨rfl,⟨nd,rfl⟩⟩;refine ⟨_,rfl,?_⟩));go_ret;exact ⟨e1,dn⟩
 ·replace c5:=Bool.eq_false_iff.mpr c5;subst c5
  have H1:((spec_l01Bool.f false).bind fun A1=>(some A1))=some r:=by rw [if_neg (show ¬ (false=true) by decide)] at H;exact H
  clear H;have H:=H1;clear H1;replace H:=ob H;obtain ⟨A1,A70,H⟩:=H;replace H:(some A1)=some r:=H;have A7:=Aside0.mk A70;clear A70;obtain rfl:=os H
  go_enter Tryz.func130,Tryz.ntmps130
  go_wp2_with (first|((with_reducible refine gate_callee (f:=134) rfl ?_);refine goesL_ (some 10) rfl rfl Tryz.func134 (by kernel_rfl) rfl #[.int .i64 a0,.int .i64 a1,.int .i64 a2] rfl ml ?_;(with_reducible refine (spec_l01Two.calls k a0 a1 a2 false _ A4.out).mono ?_);rintro e w' ⟨rfl,⟨nd,rfl⟩⟩;refine ⟨_,rfl,?_⟩)|((with_reducible refine gate_callee (f:=129) rfl ?_);refine goesL_ (some 16) rfl rfl Tryz.func129 (by kernel_rfl) rfl #[.bool false] rfl ml ?_;(with_reducible refine (spec_l01Bool.calls false A1 _ A7.out).mono ?_);rintro e w' ⟨rfl,⟨nd,rfl⟩⟩;refine ⟨_,rfl,?_⟩));go_ret;exact ⟨e1,dn⟩
def spec_Signed.f (k:Nat) (a0:Int) (a1:Int):Option (Int):=(spec_WordOk.f k a0 a1).bind fun A2=>(if A2=true then ((spec_l01Pow2.f k (wrap64 (a0 - 1))).bind fun A0=>(if a1 ≥ A0 then ((spec_l01Pow2.f k a0).bind fun A1=>(some (wrap64 (a1 - A1)))) else (some a1))) else (some 0))
theorem spec_Signed.calls (k:Nat) (a0:Int) (a1:Int) (r:Int) (w:World) (h:spec_Signed.f k a0 a1=some r) :
  Calls Tryz.prog 135 #[.int .i64 a0,.int .i64 a1] w fun e w'=>e = .returned (.int .i64 r)∧Drawn0 w w':=by
 have H:((spec_WordOk.f k a0 a1).bind fun A2=>(if A2=true then ((spec_l01Pow2.f k (wrap64 (a0 - 1))).bind fun A0=>(if a1 ≥ A0 then ((spec_l01Pow2.f k a0).bind fun A1=>(some (wrap64 (a1 - A1)))) else (some a1))) else (some 0)))=some r:=h;clear h;replace H:=ob H;obtain ⟨A2,A30,H⟩:=H
 try dsimp only at H
 have A3:=Aside0.mk A30;clear A30
 by_cases c4:A2=true
 ·subst c4
  have H1:((spec_l01Pow2.f k (wrap64 (a0 - 1))).bind fun A0=>(if a1 ≥ A0 then ((spec_l01Pow2.f k a0).bind fun A1=>(some (wrap64 (a1 - A1)))) else (some a1)))=some r:=by rw [if_pos rfl] at H;exact H
  clear H;have H:=H1;clear H1;replace H:=ob H;obtain ⟨A0,A50,H⟩:=H;replace H:(if a1 ≥ A0 then ((spec_l01Pow2.f k a0).bind fun A1=>(some (wrap64 (a1 - A1)))) else (some a1))=some r:=H;have A5:=Aside0.mk A50;clear A50
  by_cases c6:a1 ≥ A0
  ·rw [if_pos c6] at H;have c6b0:decide (A0≤a1)=true:=decide_eq_true c6;clear c6;replace H:=ob H;obtain ⟨A1,A70,H⟩:=H;replace H:(some (wrap64 (a1 - A1)))=some r:=H;have A7:=Aside0.mk A70;clear A70;obtain rfl:=os H
   go_enter Tryz.func135,Tryz.ntmps135
   go_wp2_with (first|((with_reducible refine gate_callee (f:=96) rfl ?_);refine goesL_ (some 7) rfl rfl Tryz.func96 (by kernel_rfl) rfl #[.int .i64 a0,.int .i64 a1] rfl ml ?_;(with_reducible refine (spec_WordOk.calls k a0 a1 true _ A3.out).mono ?_);rintro e w' ⟨rfl,⟨nd,rfl⟩⟩;refine ⟨_,rfl,?_⟩)|((with_reducible refine gate_callee (f:=68) rfl ?_);refine goesL_ (some 12) rfl rfl Tryz.func68 (by kernel_rfl) rfl #[.int .i64 (wrap64 (a0 - 1))] rfl ml ?_;(with_reducible refine (spec_l01Pow2.calls k (wrap64 (a0 - 1)) A0 _ A5.out).mono ?_);rintro e w' ⟨rfl,⟨nd,rfl⟩⟩;refine ⟨_,rfl,?_⟩)|((with_reducible refine gate_callee (f:=68) rfl ?_);refine goesL_ (some 16) rfl rfl Tryz.func68 (by kernel_rfl) rfl #[.int .i64 a0] rfl ml ?_;(with_reducible refine (spec_l01Pow2.calls k a0 A1 _ A7.out).mono ?_);rintro e w' ⟨rfl,⟨nd,rfl⟩⟩;refine ⟨_,rfl,?_⟩));go_ret;exact ⟨e1,dn⟩
  ·rw [if_neg c6] at H;have c6b0:decide (A0≤a1)=false:=decide_eq_false c6;clear c6;obtain rfl:=os H
   go_enter Tryz.func135,Tryz.ntmps135
   go_wp2_with (first|((with_reducible refine gate_callee (f:=96) rfl ?_);refine goesL_ (some 7) rfl rfl Tryz.func96 (by kernel_rfl) rfl #[.int .i64 a0,.int .i64 a1] rfl ml ?_;(with_reducible refine (spec_WordOk.calls k a0 a1 true _ A3.out).mono ?_);rintro e w' ⟨rfl,⟨nd,rfl⟩⟩;refine ⟨_,rfl,?_⟩)|((with_reducible refine gate_callee (f:=68) rfl ?_);refine goesL_ (some 12) rfl rfl Tryz.func68 (by kernel_rfl) rfl #[.int .i64 (wrap64 (a0 - 1))] rfl ml ?_;(with_reducible refine (spec_l01Pow2.calls k (wrap64 (a0 - 1)) A0 _ A5.out).mono ?_);rintro e w' ⟨rfl,⟨nd,rfl⟩⟩;refine ⟨_,rfl,?_⟩));go_ret;exact ⟨e1,dn⟩
 ·replace c4:=Bool.eq_false_iff.mpr c4;subst c4
  have H1:(some 0)=some r:=by rw [if_neg (show ¬ (false=true) by decide)] at H;exact H
  clear H;have H:=H1;clear H1;obtain rfl:=os H
  go_enter Tryz.func135,Tryz.ntmps135
  go_wp2_with (first|((with_reducible refine gate_callee (f:=96) rfl ?_);refine goesL_ (some 7) rfl rfl Tryz.func96 (by kernel_rfl) rfl #[.int .i64 a0,.int .i64 a1] rfl ml ?_;(with_reducible refine (spec_WordOk.calls k a0 a1 false _ A3.out).mono ?_);rintro e w' ⟨rfl,⟨nd,rfl⟩⟩;refine ⟨_,rfl,?_⟩));go_ret;exact ⟨e1,dn⟩
def spec_LessSigned.f (k:Nat) (a0:Int) (a1:Int) (a2:Int):Option (Int):=(spec_l01Two.f k a0 a1 a2).bind fun A5=>(if A5=true then ((spec_Signed.f k a0 a1).bind fun A2=>((spec_Signed.f k a0 a2).bind fun A0=>((spec_l01Bool.f (decide (A2 < A0))).bind fun A1=>(some A1)))) else ((spec_l01Bool.f false).bind fun A3=>(some A3)))
theorem spec_LessSigned.calls (k:Nat) (a0:Int) (a1:Int) (a2:Int) (r:Int) (w:World) (h:spec_LessSigned.f k a0 a1 a2=some r) :
  Calls Tryz.prog 131 #[.int .i64 a0,.int .i64 a1,.int .i64 a2] w fun e w'=>e = .returned (.int .i64 r)∧Drawn0 w w':=by
 have H:((spec_l01Two.f k a0 a1 a2).bind fun A5=>(if A5=true then ((spec_Signed.f k a0 a1).bind fun A2=>((spec_Signed.f k a0 a2).bind fun A0=>((spec_l01Bool.f (decide (A2 < A0))).bind fun A1=>(some A1)))) else ((spec_l01Bool.f false).bind fun A3=>(some A3))))=some r:=h;clear h;replace H:=ob H;obtain ⟨A5,A40,H⟩:=H
 try dsimp only at H
 have A4:=Aside0.mk A40;clear A40
 by_cases c5:A5=true
 ·subst c5
  have H1:((spec_Signed.f k a0 a1).bind fun A2=>((spec_Signed.f k a0 a2).bind fun A0=>((spec_l01Bool.f (decide (A2 < A0))).bind fun A1=>(some A1))))=some r:=by rw [if_pos rfl] at H;exact H
  clear H;have H:=H1;clear H1;replace H:=ob H;obtain ⟨A2,A60,H⟩:=H;replace H:((spec_Signed.f k a0 a2).bind fun A0=>((spec_l01Bool.f (decide (A2 < A0))).bind fun A1=>(some A1)))=some r:=H;have A6:=Aside0.mk A60;clear A60;replace H:=ob H;obtain ⟨A0,A70,H⟩:=H;replace H:((spec_l01Bool.f (decide (A2 < A0))).bind fun A1=>(some A1))=some r:=H;have A7:=Aside0.mk A70;clear A70;replace H:=ob H;obtain ⟨A1,A80,H⟩:=H;replace H:(some A1)=some r:=H;have A8:=Aside0.mk A80;clear A80;obtain rfl:=os H
  go_enter Tryz.func131,Tryz.ntmps131
  go_wp2_with (first|((with_reducible refine gate_callee (f:=134) rfl ?_);refine goesL_ (some 10) rfl rfl Tryz.func134 (by kernel_rfl) rfl #[.int .i64 a0,.int .i64 a1,.int .i64 a2] rfl ml ?_;(with_reducible refine (spec_l01Two.calls k a0 a1 a2 true _ A4.out).mono ?_);rintro e w' ⟨rfl,⟨nd,rfl⟩⟩;refine ⟨_,rfl,?_⟩)|(go_at_call 135;(try simp only [i64_w,i32_w]);(with_reducible refine (spec_Signed.calls k a0 a1 A2 _ A6.out).mono ?_);rintro e w' ⟨rfl,⟨nd,rfl⟩⟩)|(go_at_call 135;(try simp only [i64_w,i32_w]);(with_reducible refine (spec_Signed.calls k a0 a2 A0 _ A7.out).mono ?_);rintro e w' ⟨rfl,⟨nd,rfl⟩⟩)|((with_reducible refine gate_callee (f:=129) rfl ?_);refine goesL_ (some 20) rfl rfl Tryz.func129 (by kernel_rfl) rfl #[.bool (decide (A2 < A0))] rfl ml ?_;(with_reducible refine (spec_l01Bool.calls (decide (A2 < A0)) A1 _ A8.out).mono ?_);rintro e w' ⟨rfl,⟨nd,rfl⟩⟩;refine ⟨_,rfl,?_⟩));go_ret;exact ⟨e1,dn⟩
 ·replace c5:=Bool.eq_false_iff.mpr c5;subst c5
  have H1:((spec_l01Bool.f false).bind fun A3=>(some A3))=some r:=by rw [if_neg (show ¬ (false=true) by decide)] at H;exact H
  clear H;have H:=H1;clear H1;replace H:=ob H;obtain ⟨A3,A90,H⟩:=H;replace H:(some A3)=some r:=H;have A9:=Aside0.mk A90;clear A90;obtain rfl:=os H
  go_enter Tryz.func131,Tryz.ntmps131
  go_wp2_with (first|((with_reducible refine gate_callee (f:=134) rfl ?_);refine goesL_ (some 10) rfl rfl Tryz.func134 (by kernel_rfl) rfl #[.int .i64 a0,.int .i64 a1,.int .i64 a2] rfl ml ?_;(with_reducible refine (spec_l01Two.calls k a0 a1 a2 false _ A4.out).mono ?_);rintro e w' ⟨rfl,⟨nd,rfl⟩⟩;refine ⟨_,rfl,?_⟩)|((with_reducible refine gate_callee (f:=129) rfl ?_);refine goesL_ (some 20) rfl rfl Tryz.func129 (by kernel_rfl) rfl #[.bool false] rfl ml ?_;(with_reducible refine (spec_l01Bool.calls false A3 _ A9.out).mono ?_);rintro e w' ⟨rfl,⟨nd,rfl⟩⟩;refine ⟨_,rfl,?_⟩));go_ret;exact ⟨e1,dn⟩
def spec_Mul.f (k:Nat) (a0:Int) (a1:Int) (a2:Int):Option (Int):=(spec_l01Two.f k a0 a1 a2).bind fun A1=>(if A1=true then ((spec_l01Pow2.f k a0).bind fun A0=>(if A0=0 then (none) else (some (Int.tmod (wrap64 (a1 * a2)) A0)))) else (some 0))
theorem spec_Mul.calls (k:Nat) (a0:Int) (a1:Int) (a2:Int) (r:Int) (w:World) (h:spec_Mul.f k a0 a1 a2=some r) :
  Calls Tryz.prog 124 #[.int .i64 a0,.int .i64 a1,.int .i64 a2] w fun e w'=>e = .returned (.int .i64 r)∧Drawn0 w w':=by
 have H:((spec_l01Two.f k a0 a1 a2).bind fun A1=>(if A1=true then ((spec_l01Pow2.f k a0).bind fun A0=>(if A0=0 then (none) else (some (Int.tmod (wrap64 (a1 * a2)) A0)))) else (some 0)))=some r:=h;clear h;replace H:=ob H;obtain ⟨A1,A40,H⟩:=H
 try dsimp only at H
 have A4:=Aside0.mk A40;clear A40
 by_cases c5:A1=true
 ·subst c5
  have H1:((spec_l01Pow2.f k a0).bind fun A0=>(if A0=0 then (none) else (some (Int.tmod (wrap64 (a1 * a2)) A0))))=some r:=by rw [if_pos rfl] at H;exact H
  clear H;have H:=H1;clear H1;replace H:=ob H;obtain ⟨A0,A60,H⟩:=H;replace H:(if A0=0 then (none) else (some (Int.tmod (wrap64 (a1 * a2)) A0)))=some r:=H;have A6:=Aside0.mk A60;clear A60
  by_cases c7:A0=0
  ·rw [if_pos c7] at H;exact absurd H (by simp)
  ·rw [if_neg c7] at H;have c7b0:(A0 == 0)=false:=beq_eq_false_iff_ne.mpr c7;have c7b1:(A0 != 0)=true:=bne_iff_ne.mpr c7;obtain rfl:=os H
   go_enter Tryz.func124,Tryz.ntmps124
   go_wp2_with (first|((with_reducible refine gate_callee (f:=134) rfl ?_);refine goesL_ (some 10) rfl rfl Tryz.func134 (by kernel_rfl) rfl #[.int .i64 a0,.int .i64 a1,.int .i64 a2] rfl ml ?_;(with_reducible refine (spec_l01Two.calls k a0 a1 a2 true _ A4.out).mono ?_);rintro e w' ⟨rfl,⟨nd,rfl⟩⟩;refine ⟨_,rfl,?_⟩)|((with_reducible refine gate_callee (f:=68) rfl ?_);refine goesL_ (some 16) rfl rfl Tryz.func68 (by kernel_rfl) rfl #[.int .i64 a0] rfl ml ?_;(with_reducible refine (spec_l01Pow2.calls k a0 A0 _ A6.out).mono ?_);rintro e w' ⟨rfl,⟨nd,rfl⟩⟩;refine ⟨_,rfl,?_⟩));go_ret;exact ⟨e1,dn⟩
 ·replace c5:=Bool.eq_false_iff.mpr c5;subst c5
  have H1:(some 0)=some r:=by rw [if_neg (show ¬ (false=true) by decide)] at H;exact H
  clear H;have H:=H1;clear H1;obtain rfl:=os H
  go_enter Tryz.func124,Tryz.ntmps124
  go_wp2_with (first|((with_reducible refine gate_callee (f:=134) rfl ?_);refine goesL_ (some 10) rfl rfl Tryz.func134 (by kernel_rfl) rfl #[.int .i64 a0,.int .i64 a1,.int .i64 a2] rfl ml ?_;(with_reducible refine (spec_l01Two.calls k a0 a1 a2 false _ A4.out).mono ?_);rintro e w' ⟨rfl,⟨nd,rfl⟩⟩;refine ⟨_,rfl,?_⟩));go_ret;exact ⟨e1,dn⟩
def spec_Rem.f (k:Nat) (a0:Int) (a1:Int) (a2:Int):Option (Int):=(spec_l01Two.f k a0 a1 a2).bind fun A0=>(if A0=true then (if a2=0 then (some a1) else (some (Int.tmod a1 a2))) else (some 0))
theorem spec_Rem.calls (k:Nat) (a0:Int) (a1:Int) (a2:Int) (r:Int) (w:World) (h:spec_Rem.f k a0 a1 a2=some r) :
  Calls Tryz.prog 126 #[.int .i64 a0,.int .i64 a1,.int .i64 a2] w fun e w'=>e = .returned (.int .i64 r)∧Drawn0 w w':=by
 have H:((spec_l01Two.f k a0 a1 a2).bind fun A0=>(if A0=true then (if a2=0 then (some a1) else (some (Int.tmod a1 a2))) else (some 0)))=some r:=h;clear h;replace H:=ob H;obtain ⟨A0,A40,H⟩:=H;replace H:(if A0=true then (if a2=0 then (some a1) else (some (Int.tmod a1 a2))) else (some 0))=some r:=H;have A4:=Aside0.mk A40;clear A40
 by_cases c5:A0=true
 ·subst c5
  have H1:(if a2=0 then (some a1) else (some (Int.tmod a1 a2)))=some r:=by rw [if_pos rfl] at H;exact H
  clear H;have H:=H1;clear H1
  by_cases c6:a2=0
  ·rw [if_pos c6] at H;have c6b0:(a2 == 0)=true:=beq_iff_eq.mpr c6;have c6b1:(a2 != 0)=false:=bne_eq_false_iff_eq.mpr c6;clear c6;obtain rfl:=os H
   go_enter Tryz.func126,Tryz.ntmps126
   go_wp2_with (first|((with_reducible refine gate_callee (f:=134) rfl ?_);refine goesL_ (some 10) rfl rfl Tryz.func134 (by kernel_rfl) rfl #[.int .i64 a0,.int .i64 a1,.int .i64 a2] rfl ml ?_;(with_reducible refine (spec_l01Two.calls k a0 a1 a2 true _ A4.out).mono ?_);rintro e w' ⟨rfl,⟨nd,rfl⟩⟩;refine ⟨_,rfl,?_⟩));go_ret;exact ⟨e1,dn⟩
  ·rw [if_neg c6] at H;have c6b0:(a2 == 0)=false:=beq_eq_false_iff_ne.mpr c6;have c6b1:(a2 != 0)=true:=bne_iff_ne.mpr c6;obtain rfl:=os H
   go_enter Tryz.func126,Tryz.ntmps126
   go_wp2_with (first|((with_reducible refine gate_callee (f:=134) rfl ?_);refine goesL_ (some 10) rfl rfl Tryz.func134 (by kernel_rfl) rfl #[.int .i64 a0,.int .i64 a1,.int .i64 a2] rfl ml ?_;(with_reducible refine (spec_l01Two.calls k a0 a1 a2 true _ A4.out).mono ?_);rintro e w' ⟨rfl,⟨nd,rfl⟩⟩;refine ⟨_,rfl,?_⟩));go_ret;exact ⟨e1,dn⟩
 ·replace c5:=Bool.eq_false_iff.mpr c5;subst c5
  have H1:(some 0)=some r:=by rw [if_neg (show ¬ (false=true) by decide)] at H;exact H
  clear H;have H:=H1;clear H1;obtain rfl:=os H
  go_enter Tryz.func126,Tryz.ntmps126
  go_wp2_with (first|((with_reducible refine gate_callee (f:=134) rfl ?_);refine goesL_ (some 10) rfl rfl Tryz.func134 (by kernel_rfl) rfl #[.int .i64 a0,.int .i64 a1,.int .i64 a2] rfl ml ?_;(with_reducible refine (spec_l01Two.calls k a0 a1 a2 false _ A4.out).mono ?_);rintro e w' ⟨rfl,⟨nd,rfl⟩⟩;refine ⟨_,rfl,?_⟩));go_ret;exact ⟨e1,dn⟩
def spec_Shl.j0:Nat→Int→Int→Int→Bool→Option (Int)
 | 0,_,_,_,_=>none
 | k + 1,x0,x1,x2,x16=>if x16=true then (some 0) else ((spec_l01Pow2.f k x2).bind fun A1=>((spec_l01Pow2.f k x0).bind fun A0=>(if A0=0 then (none) else (some (Int.tmod (wrap64 (x1 * A1)) A0)))))
def spec_Shl.f (k:Nat) (a0:Int) (a1:Int) (a2:Int):Option (Int):=(spec_l01Two.f k a0 a1 a2).bind fun A3=>(if A3=true then (spec_Shl.j0 k a0 a1 a2 (decide (a2 ≥ a0))) else (spec_Shl.j0 k a0 a1 a2 true))
theorem spec_Shl.calls (k:Nat) (a0:Int) (a1:Int) (a2:Int) (r:Int) (w:World) (h:spec_Shl.f k a0 a1 a2=some r) :
  Calls Tryz.prog 127 #[.int .i64 a0,.int .i64 a1,.int .i64 a2] w fun e w'=>e = .returned (.int .i64 r)∧Drawn0 w w':=by
 have H:((spec_l01Two.f k a0 a1 a2).bind fun A3=>(if A3=true then (spec_Shl.j0 k a0 a1 a2 (decide (a2 ≥ a0))) else (spec_Shl.j0 k a0 a1 a2 true)))=some r:=h;clear h;have HC4:=Aside0.mk H;clear H
 go_enter Tryz.func127,Tryz.ntmps127
 go_upto_region 1 with (fail)
 go_cut [16] (fun v16 wc=>∃ (kq:Nat) (A2:Bool),v16 = .bool A2∧Aside0 (spec_Shl.j0 kq a0 a1 a2 A2=some r)∧Aside0 (kq≤k)∧Drawn0 w wc)
 case first =>
  have H:=HC4.out;clear HC4;replace H:=ob H;obtain ⟨A3,A50,H⟩:=H;replace H:(if A3=true then (spec_Shl.j0 k a0 a1 a2 (decide (a2 ≥ a0))) else (spec_Shl.j0 k a0 a1 a2 true))=some r:=H;have A5:=Aside0.mk A50;clear A50
  by_cases c6:A3=true
  ·subst c6
   have H1:(spec_Shl.j0 k a0 a1 a2 (decide (a2 ≥ a0)))=some r:=by rw [if_pos rfl] at H;exact H
   clear H;have H:=H1;clear H1;have H':=Aside0.mk H;clear H;go_wp2_with (first|((with_reducible refine gate_callee (f:=134) rfl ?_);refine goesL_ (some 10) rfl rfl Tryz.func134 (by kernel_rfl) rfl #[.int .i64 a0,.int .i64 a1,.int .i64 a2] rfl ml ?_;(with_reducible refine (spec_l01Two.calls k a0 a1 a2 true _ A5.out).mono ?_);rintro e w' ⟨rfl,⟨nd,rfl⟩⟩;refine ⟨_,rfl,?_⟩));go_meet
   case rel=>exact ⟨_,(decide (a2 ≥ a0)),(by first|rfl|(simp;done)|(simp [*];done)),H',⟨by first|omega|exact Nat.le_refl _⟩,by repeat (first|exact Drawn0.refl _|apply Drawn0.step)⟩
  ·replace c6:=Bool.eq_false_iff.mpr c6;subst c6
   have H1:(spec_Shl.j0 k a0 a1 a2 true)=some r:=by rw [if_neg (show ¬ (false=true) by decide)] at H;exact H
   clear H;have H:=H1;clear H1;have H':=Aside0.mk H;clear H;go_wp2_with (first|((with_reducible refine gate_callee (f:=134) rfl ?_);refine goesL_ (some 10) rfl rfl Tryz.func134 (by kernel_rfl) rfl #[.int .i64 a0,.int .i64 a1,.int .i64 a2] rfl ml ?_;(with_reducible refine (spec_l01Two.calls k a0 a1 a2 false _ A5.out).mono ?_);rintro e w' ⟨rfl,⟨nd,rfl⟩⟩;refine ⟨_,rfl,?_⟩));go_meet
   case rel=>exact ⟨_,(true),(by first|rfl|(simp;done)|(simp [*];done)),H',⟨by first|omega|exact Nat.le_refl _⟩,by repeat (first|exact Drawn0.refl _|apply Drawn0.step)⟩
 case rest =>
  clear HC4;(try clear c1);(try clear p2);(try clear c6);obtain ⟨kq,A2,rfl,HA,HJ3,⟨mc3,rfl⟩⟩:=hcut
  cases kq with
  | zero=>exact absurd HA.out (by simp [spec_Shl.j0])
  | succ kj3 =>
   have H:=HA.out;clear HA;simp only [spec_Shl.j0] at H
   by_cases c7:A2=true
   ·subst c7
    have H1:(some 0)=some r:=by rw [if_pos rfl] at H;exact H
    clear H;have H:=H1;clear H1;obtain rfl:=os H;go_wp2;go_ret;exact ⟨e1,dn⟩
   ·replace c7:=Bool.eq_false_iff.mpr c7;subst c7
    have H1:((spec_l01Pow2.f kj3 a2).bind fun A1=>((spec_l01Pow2.f kj3 a0).bind fun A0=>(if A0=0 then (none) else (some (Int.tmod (wrap64 (a1 * A1)) A0)))))=some r:=by rw [if_neg (show ¬ (false=true) by decide)] at H;exact H
    clear H;have H:=H1;clear H1;replace H:=ob H;obtain ⟨A1,A80,H⟩:=H;replace H:((spec_l01Pow2.f kj3 a0).bind fun A0=>(if A0=0 then (none) else (some (Int.tmod (wrap64 (a1 * A1)) A0))))=some r:=H;have A8:=Aside0.mk A80;clear A80;replace H:=ob H;obtain ⟨A0,A90,H⟩:=H;replace H:(if A0=0 then (none) else (some (Int.tmod (wrap64 (a1 * A1)) A0)))=some r:=H;have A9:=Aside0.mk A90;clear A90
    by_cases c10:A0=0
    ·rw [if_pos c10] at H;exact absurd H (by simp)
    ·rw [if_neg c10] at H;have c10b0:(A0 == 0)=false:=beq_eq_false_iff_ne.mpr c10;have c10b1:(A0 != 0)=true:=bne_iff_ne.mpr c10;obtain rfl:=os H;go_wp2_with (first|((with_reducible refine gate_callee (f:=68) rfl ?_);refine goesL_ (some 19) rfl rfl Tryz.func68 (by kernel_rfl) rfl #[.int .i64 a2] rfl ml ?_;(with_reducible refine (spec_l01Pow2.calls kj3 a2 A1 _ A8.out).mono ?_);rintro e w' ⟨rfl,⟨nd,rfl⟩⟩;refine ⟨_,rfl,?_⟩)|((with_reducible refine gate_callee (f:=68) rfl ?_);refine goesL_ (some 22) rfl rfl Tryz.func68 (by kernel_rfl) rfl #[.int .i64 a0] rfl ml ?_;(with_reducible refine (spec_l01Pow2.calls kj3 a0 A0 _ A9.out).mono ?_);rintro e w' ⟨rfl,⟨nd,rfl⟩⟩;refine ⟨_,rfl,?_⟩));go_ret;exact ⟨e1,dn⟩
end Go.Proofs.YthipjoioicmcnaaGreat.G
