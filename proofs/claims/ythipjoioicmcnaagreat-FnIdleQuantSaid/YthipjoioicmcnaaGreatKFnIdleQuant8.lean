-- texts of this session, merged by a program of it (wip/gen/pack.py)
import Derived.Test.YthipjoioicmcnaaGreatKFnIdleQuant2
import Derived.Test.YthipjoioicmcnaaGreatKFnIdleQuant6
import Derived.Test.YthipjoioicmcnaaGreatKFnIdleQuant7
set_option linter.unusedVariables false
set_option linter.unusedSimpArgs false
set_option maxHeartbeats 80000000
set_option maxRecDepth 100000
namespace Go.Proofs.YthipjoioicmcnaaGreat.G
open Go.RowKit Go.Proofs.YthipjoioicmcnaaGreatW.PrintWords Go.Proofs.YthipjoioicmcnaaGreatW.PrintLast Go.Proofs.YthipjoioicmcnaaGreatW.PrintMore Go.Proofs.YthipjoioicmcnaaGreat.Sh
attribute [local go_sem] max2_int min2_int max_two min_two max_three min_three max_four min_four
mutual
def spec_l02Reach.l0:Nat→List (S52)→List Bool→Int→Option (List Bool)
 | 0,_,_,_=>none
 | k + 1,x0,x3,x4=>if x4 < (x0.length:Int) then (if x3.length < 140737488355328 then (spec_l02Reach.l0 k x0 (x3 ++ [(x4 == (wrap64 ((x0.length:Int) - 1)))]) (wrap64 (x4 + 1))) else (none)) else (spec_l02Reach.l1 k x0 x3 (wrap64 ((x0.length:Int) - 1)))
def spec_l02Reach.l1:Nat→List (S52)→List Bool→Int→Option (List Bool)
 | 0,_,_,_=>none
 | k + 1,x0,x3,x5=>if x5 ≥ 0 then (if 0≤x5 then (if x5 < (x0.length:Int) then ((spec_Parts.f k ((rd_T52 x0 x5).f0) ((rd_T52 x0 x5).f1) ((rd_T52 x0 x5).f2) ((rd_T52 x0 x5).f3) ((rd_T52 x0 x5).f4) ((rd_T52 x0 x5).f5)).bind fun A3=>(spec_l02Reach.l2 k x0 x3 x5 A3 0)) else (none)) else (none)) else (some x3)
def spec_l02Reach.l2:Nat→List (S52)→List Bool→Int→List Int→Int→Option (List Bool)
 | 0,_,_,_,_,_=>none
 | k + 1,x0,x3,x5,x6,x7=>if x7 < (x6.length:Int) then (if 0≤x5 then (if x5 < (x3.length:Int) then (if rdOf false x3 x5=true then (if 0≤x7 then (if 0≤(rd x6 x7) then (if (rd x6 x7) < (x3.length:Int) then (spec_l02Reach.l2 k x0 (x3.set ((rd x6 x7):Int).toNat true) x5 x6 (wrap64 (x7 + 1))) else (none)) else (none)) else (none)) else (spec_l02Reach.l1 k x0 x3 (wrap64 (x5 - 1)))) else (none)) else (none)) else (spec_l02Reach.l1 k x0 x3 (wrap64 (x5 - 1)))
end
def spec_l02Reach.f (k:Nat) (l0:List (S52)):Option (List Bool):=spec_l02Reach.l0 k l0 (([]:List Bool)) 0
theorem spec_l02Reach.calls (k:Nat) (A0:Option Addr) (c0:Nat) (l0:List (S52)) (r:List Bool) (w:World) (hr0:Kd.C k52 w A0 l0.length l0) (hc0:l0.length≤c0) (h:spec_l02Reach.f k l0=some r) :
  Calls Tryz.prog 57 #[.slice A0 l0.length c0] w fun e w'=>∃ v0_:Value,e = .returned (v0_)∧Kd.R Kd.bool 4 w' w.heap.size (fun _=>True) v0_ r∧Below w.heap.size w w':=by
 have hu52:=Tryz.underlying52;have HR0:=Aside0.mk hr0;have HC0:=Aside0.mk hc0;clear hr0 hc0;have HB:=Aside0.mk (Below.refl w.heap.size w);have H:(spec_l02Reach.l0 k l0 (([]:List Bool)) 0)=some r:=h;clear h;obtain ⟨y101,hy101⟩:∃ y_:List Bool,y_=(([]:List Bool)):=⟨_,rfl⟩;replace H:(spec_l02Reach.l0 k l0 y101 0)=some r:=hy_ hy101 H;have Ny101:=Aside0.mk hy101;clear hy101;have H':=Aside0.mk H;clear H
 go_enter Tryz.func57,Tryz.ntmps57
 go_wp2_with (first|((with_reducible refine gate_dst (N:=8) rfl ?_);refine Kd.R_lit Kd.bool _ 4 ?hg (N:=8) ?hd (xs:=([]:List Bool)) (inner:=[]) (ok:=fun _=>True) (okp:=fun _=>True) ?hr ?hp (fun _ hk=>hk) trivial (Below.refl _ _) (Nat.le_refl _) (by simp) ?_;(case hd=>rfl);(case hg=>rfl);(case hr=>first|(go_simp;done)|(go_simp;rfl));(case hp=>exact (Reps.none _ _));intro v102 w2 ho3 hb hg_ hnew_;clear hg_ hnew_;(first|rw [← Ny101.out] at ho3|(simp only [Int.reduceToNat] at ho3;rw [← Ny101.out] at ho3));have Aa:=Aside0.mk (Kd.R_lower ho3 (below_size (tb HB)));replace HB:=Aside0.mk (below_step (tb HB) hb);clear hb ho3))
 go_loopg [3,4] k (fun kq v3 v4 w'=>∃ (A7:List Bool) (A6:Int),v4 = .int .i64 A6∧Aside0 (spec_l02Reach.l0 kq l0 A7 A6=some r)∧Aside0 (kq≤k)∧Aside0 (Kd.R Kd.bool 4 w' w.heap.size (fun _=>True) v3 A7)∧Aside0 (Below w.heap.size w w'))
 case atStart=>exact ⟨(y101),(0),(by first|rfl|(simp;done)|(simp [*];done)),H',⟨Nat.le_refl _⟩,⟨ra Aa⟩,⟨by exact tb HB⟩⟩
 case round =>
  clear H';(try clear p2);obtain ⟨A7,A6,rfl,HA,HK1,A5,HB⟩:=hrel
  cases gk with
  | zero=>exact absurd HA.out (by simp [spec_l02Reach.l0])
  | succ k1 =>
   have H:=HA.out;clear HA;simp only [spec_l02Reach.l0] at H
   by_cases c4:A6 < (l0.length:Int)
   ·rw [if_pos c4] at H;have c4b0:decide (A6 < (l0.length:Int))=true:=decide_eq_true c4;clear c4
    by_cases c5:A7.length < 140737488355328
    ·rw [if_pos c5] at H;have LMc5:=Aside0.mk c5;clear c5;obtain ⟨y104,hy104⟩:∃ y_:List Bool,y_=(A7 ++ [(A6 == (wrap64 ((l0.length:Int) - 1)))]):=⟨_,rfl⟩;replace H:(spec_l02Reach.l0 k1 l0 y104 (wrap64 (A6 + 1)))=some r:=hy_ hy104 H;have Ny104:=Aside0.mk hy104;clear hy104;have H':=Aside0.mk H;clear H;go_wp2_with (first|((with_reducible refine gate_builtin (b := .append) (xs:=#[.tmp 15,.tmp 21]) rfl ?_);at_builtin;refine Kd.R_append Kd.bool (w0:=w) w.heap.size rfl (.tmp 15) (.tmp 21) 29 4 (.bool false) 1 rfl Tryz.underlying29 info4 rfl (by decide) (by omega) u3 A7 (A6 == (wrap64 ((l0.length:Int) - 1))) [.bool (A6 == (wrap64 ((l0.length:Int) - 1)))] (fun _=>True) (fun _=>False) rfl rfl ?aP (fun _ hk=>hk.elim) ?aF ?aO ?aB ?aS ?aL ?_;(case aP=>exact rfl);(case aB=>exact (tb HB));(case aF=>exact (fun _ _=>trivial));(case aO=>exact (ra A5));(case aS=>exact (below_size (tb HB)));(case aL=>have:=LMc5.out;omega);intro v105 w6 ho hb hg hat;rw [← Ny104.out] at ho;replace HB:=Aside0.mk (hb);have Ab:=Aside0.mk (ho);clear A5;clear ho hb hg hat));go_roundg k1
     case measure=>have:=HK1.out;omega
     case rel=>exact ⟨(y104),(wrap64 (A6 + 1)),(by first|rfl|(simp;done)|(simp [*];done)),H',⟨by have:=HK1.out;omega⟩,⟨ra Ab⟩,⟨by exact tb HB⟩⟩
    ·rw [if_neg c5] at H;exact absurd H (by simp)
   ·rw [if_neg c4] at H;have c4b0:decide (A6 < (l0.length:Int))=false:=decide_eq_false c4;clear c4;have H':=Aside0.mk H;clear H;go_wp2
    go_loopg [5] k1 (fun kq v5 w'=>∃ (A9:List Bool) (A1:Int),v5 = .int .i64 A1∧Aside0 (spec_l02Reach.l1 kq l0 A9 A1=some r)∧Aside0 (kq≤k1)∧Aside0 (Kd.R Kd.bool 4 w' w.heap.size (fun _=>True) u3 A9)∧Aside0 (Below w.heap.size w w'))
    case atStart=>exact ⟨(A7),(wrap64 ((l0.length:Int) - 1)),(by first|rfl|(simp;done)|(simp [*];done)),H',⟨Nat.le_refl _⟩,⟨ra A5⟩,⟨by exact tb HB⟩⟩
    case round =>
     clear H';(try clear p2);(try clear c4);(try clear c4b0);(try clear c5);(try clear p6);(try clear p2);obtain ⟨A9,A1,rfl,HA,HK2,A5,HB⟩:=hrel
     cases gk with
     | zero=>exact absurd HA.out (by simp [spec_l02Reach.l1])
     | succ k2 =>
      have H:=HA.out;clear HA;simp only [spec_l02Reach.l1] at H
      by_cases c7:A1 ≥ 0
      ·rw [if_pos c7] at H;have c7b0:decide (0≤A1)=true:=decide_eq_true c7;clear c7
       by_cases c8:0≤A1
       ·rw [if_pos c8] at H;have c8b0:decide (0≤A1)=true:=decide_eq_true c8;clear c8
        by_cases c9:A1 < (l0.length:Int)
        ·rw [if_pos c9] at H;have c9b0:decide (A1 < (l0.length:Int))=true:=decide_eq_true c9;clear c9;replace H:=ob H;obtain ⟨A3,A100,H⟩:=H;replace H:(spec_l02Reach.l2 k2 l0 A9 A1 A3 0)=some r:=H;have A10:=Aside0.mk A100;clear A100;have H':=Aside0.mk H;clear H;have p107:0≤(A1:Int):=od;have q107:A1 < (l0.length:Int):=od;obtain ⟨ad107,e107,hx107_0,hx107_1,hx107_2,hx107_3,hx107_4,hx107_5⟩:=at_T52 HR0.out A1 p107 q107;cases e107;replace hx107_0:=ct HB hx107_0;replace hx107_1:=ct HB hx107_1;replace hx107_2:=ct HB hx107_2;replace hx107_3:=ct HB hx107_3;replace hx107_4:=ct HB hx107_4;replace hx107_5:=ct HB hx107_5;replace p107:=eq_true p107;replace q107:=eq_true q107;go_wp2_with (first|((with_reducible refine gate_callee (f:=27) rfl ?_);refine goesL_ (some 34) rfl rfl Tryz.func27 (by kernel_rfl) rfl #[.agg #[.int .i64 ((rd_T52 l0 A1).f0),.int .i64 ((rd_T52 l0 A1).f1),.int .i64 ((rd_T52 l0 A1).f2),.int .i64 ((rd_T52 l0 A1).f3),.int .i64 ((rd_T52 l0 A1).f4),.int .i64 ((rd_T52 l0 A1).f5)]] rfl ml ?_;(with_reducible refine (spec_Parts.calls k2 ((rd_T52 l0 A1).f0) ((rd_T52 l0 A1).f1) ((rd_T52 l0 A1).f2) ((rd_T52 l0 A1).f3) ((rd_T52 l0 A1).f4) ((rd_T52 l0 A1).f5) A3 _ A10.out).mono ?_);rintro e w11 ⟨v109,rfl,ho0,hb⟩;refine ⟨_,rfl,?_⟩;replace A5:=Aside0.mk (Kd.R_below (ra A5) hb);have Ac:=Aside0.mk (Kd.R_lower ho0 (below_size (tb HB)));replace HB:=Aside0.mk (below_step (tb HB) hb);(try clear hb);(try clear hb2);(try clear hk);(try clear hi);(try clear ho0)))
         go_loopg [7] k2 (fun kq v7 w'=>∃ (A4:List Bool) (A2:Int),v7 = .int .i64 A2∧Aside0 (spec_l02Reach.l2 kq l0 A4 A1 A3 A2=some r)∧Aside0 (kq≤k2)∧Aside0 (Kd.R Kd.bool 4 w' w.heap.size (fun _=>True) u3 A4)∧Aside0 (Kd.R (Kd.int .i64) 3 w' w.heap.size (fun _=>True) v109 A3)∧Aside0 (Below w.heap.size w w'))
         case atStart=>exact ⟨(A9),(0),(by first|rfl|(simp;done)|(simp [*];done)),H',⟨Nat.le_refl _⟩,⟨ra A5⟩,⟨ra Ac⟩,⟨by exact tb HB⟩⟩
         case round =>
          clear H';(try clear p1);(try clear q1);(try clear hx1);(try clear c2);(try clear p2);(try clear c4);(try clear c4b0);(try clear c5);(try clear p6);(try clear c7);(try clear c7b0);(try clear c8);(try clear c8b0);(try clear c9);(try clear c9b0);(try clear p10);(try clear q10);(try clear hx10);(try clear hx107_0);(try clear hx107_1);(try clear hx107_2);(try clear hx107_3);(try clear hx107_4);(try clear hx107_5);(try clear p107);(try clear p2);(try clear p6);(try clear q107);obtain ⟨A4,A2,rfl,HA,HK3,A5,A8,HB⟩:=hrel
          cases gk with
          | zero=>exact absurd HA.out (by simp [spec_l02Reach.l2])
          | succ k3 =>
           have H:=HA.out;clear HA;simp only [spec_l02Reach.l2] at H
           by_cases c12:A2 < (A3.length:Int)
           ·rw [if_pos c12] at H;have c12b0:decide (A2 < (A3.length:Int))=true:=decide_eq_true c12;clear c12
            by_cases c13:0≤A1
            ·rw [if_pos c13] at H;have c13b0:decide (0≤A1)=true:=decide_eq_true c13;clear c13
             by_cases c14:A1 < (A4.length:Int)
             ·rw [if_pos c14] at H;have c14b0:decide (A1 < (A4.length:Int))=true:=decide_eq_true c14;clear c14;obtain ⟨bq15,hbq15⟩:∃ b_:Bool,b_=(rdOf false A4 A1):=⟨_,rfl⟩
              replace H:(if bq15=true then (if 0≤A2 then (if 0≤(rd A3 A2) then (if (rd A3 A2) < (A4.length:Int) then (spec_l02Reach.l2 k3 l0 (A4.set ((rd A3 A2):Int).toNat true) A1 A3 (wrap64 (A2 + 1))) else (none)) else (none)) else (none)) else (spec_l02Reach.l1 k3 l0 A4 (wrap64 (A1 - 1))))=some r:=by rw [← hbq15] at H;exact H
              have Nbq15:=Aside0.mk hbq15;clear hbq15
              by_cases c16:bq15=true
              ·subst c16
               have H1:(if 0≤A2 then (if 0≤(rd A3 A2) then (if (rd A3 A2) < (A4.length:Int) then (spec_l02Reach.l2 k3 l0 (A4.set ((rd A3 A2):Int).toNat true) A1 A3 (wrap64 (A2 + 1))) else (none)) else (none)) else (none))=some r:=by rw [if_pos rfl] at H;exact H
               clear H;have H:=H1;clear H1
               by_cases c17:0≤A2
               ·rw [if_pos c17] at H;have c17b0:decide (0≤A2)=true:=decide_eq_true c17;clear c17
                by_cases c18:0≤(rd A3 A2)
                ·rw [if_pos c18] at H;have c18b0:decide (0≤(rd A3 A2))=true:=decide_eq_true c18;clear c18
                 by_cases c19:(rd A3 A2) < (A4.length:Int)
                 ·rw [if_pos c19] at H;have c19b0:decide ((rd A3 A2) < (A4.length:Int))=true:=decide_eq_true c19;clear c19;obtain ⟨y113,hy113⟩:∃ y_:List Bool,y_=(A4.set ((rd A3 A2):Int).toNat true):=⟨_,rfl⟩;replace H:(spec_l02Reach.l2 k3 l0 y113 A1 A3 (wrap64 (A2 + 1)))=some r:=hy_ hy113 H;have Ny113:=Aside0.mk hy113;clear hy113;have H':=Aside0.mk H;clear H;obtain ⟨Ao21,co21,eo21⟩:=Kd.R_slice A8.out;subst eo21;obtain ⟨Ao22,Ad,eo22⟩:=Kd.R_slice A5.out;subst eo22;have p111:0≤(A1:Int):=od;have q111:A1 < (A4.length:Int):=od;obtain ⟨ad111,e111,hx111_0⟩:=Kd.at_bool (Kd.R_reads' A5.out).2.2 A1 p111 q111
                  (try rw [← Nbq15.out] at hx111_0)
                  cases e111;replace p111:=eq_true p111;replace q111:=eq_true q111;have p112:0≤(A2:Int):=od;have q112:A2 < (A3.length:Int):=od;obtain ⟨ad112,e112,hx112_0⟩:=Kd.at_int (Kd.R_reads' A8.out).2.2 A2 p112 q112;cases e112;replace p112:=eq_true p112;replace q112:=eq_true q112;have p20:0≤((rd A3 A2):Int):=od;have q20:((rd A3 A2):Int) < ((A4.length:Int):Int):=od;obtain ⟨go20,co20,eo20,Ae,gl20,cl20,HG20⟩:=Kd.R_form A5.out (by omega);(first|cases eo20|(injection eo20 with ea_ en_ ec_;(first|subst ea_|(injection ea_ with ea_;subst ea_));subst ec_;clear en_));have GB20:=Aside0.mk Ae;have GG20:=Aside0.mk HG20;clear Ae gl20 HG20;(first|simp only [add_plain] at hx111_0|skip);obtain ⟨hx20_0,hf20_0⟩:=Kd.R_celln false A5.out ((rd A3 A2):Int) p20 q20;replace p20:=eq_true p20;replace q20:=eq_true q20;have HP23:=Kd.R_putg A5.out ((rd A3 A2):Int) true;go_wp2_with (first|((with_reducible refine gate_store (t:=4) (p:=52) rfl ?_);refine store_event (t:=4) (p:=52) (v:=?vo_w24) (w1:=(wr.setCell ⟨go20,((rd A3 A2):Int).toNat,none⟩ (.bool true))) ?hg ?ho ?hn ?hr ?_;(case ho=>rfl);(case hg=>rfl);(case hn=>rfl);(case hr=>first|(go_simp;done)|(go_simp;rfl));intro w24 hw;have hg:wr.grownBy w24 (some go20):=(by rw [hw];exact HP23.2);have hp_:Kd.R Kd.bool 4 w24 w.heap.size (fun _=>True) (.slice (some ⟨go20,0,none⟩) A4.length Ad) y113:=(by rw [hw,Ny113.out];exact HP23.1);clear HP23;replace A8:=Aside0.mk (Kd.R_over' (v:=(.slice (some ⟨go20,0,none⟩) A4.length Ad)) (ra A8) (Kd.R_typed A5.out) (by decide) hg);replace A5:=Aside0.mk (hp_);replace HB:=Aside0.mk ((by rw [hw];exact below_set (HB.out) GB20.out:Below w.heap.size w w24));clear hg hw hp_));go_roundg k3
                  case measure=>have:=HK1.out;have:=HK2.out;have:=HK3.out;omega
                  case rel=>exact ⟨(y113),(wrap64 (A2 + 1)),(by first|rfl|(simp;done)|(simp [*];done)),H',⟨by have:=HK1.out;have:=HK2.out;have:=HK3.out;omega⟩,⟨ra A5⟩,⟨ra A8⟩,⟨by exact tb HB⟩⟩
                 ·rw [if_neg c19] at H;exact absurd H (by simp)
                ·rw [if_neg c18] at H;exact absurd H (by simp)
               ·rw [if_neg c17] at H;exact absurd H (by simp)
              ·replace c16:=Bool.eq_false_iff.mpr c16;subst c16
               have H1:(spec_l02Reach.l1 k3 l0 A4 (wrap64 (A1 - 1)))=some r:=by rw [if_neg (show ¬ (false=true) by decide)] at H;exact H
               clear H;have H:=H1;clear H1;have H':=Aside0.mk H;clear H;obtain ⟨Ao25,co25,eo25⟩:=Kd.R_slice A8.out;subst eo25;obtain ⟨Ao26,co26,eo26⟩:=Kd.R_slice A5.out;subst eo26;have p111:0≤(A1:Int):=od;have q111:A1 < (A4.length:Int):=od;obtain ⟨ad111,e111,hx111_0⟩:=Kd.at_bool (Kd.R_reads' A5.out).2.2 A1 p111 q111
               (try rw [← Nbq15.out] at hx111_0)
               cases e111;replace p111:=eq_true p111;replace q111:=eq_true q111;go_wp2;go_roundg k3
               case measure=>have:=HK1.out;have:=HK2.out;have:=HK3.out;omega
               case rel=>exact ⟨(A4),(wrap64 (A1 - 1)),(by first|rfl|(simp;done)|(simp [*];done)),H',⟨by have:=HK1.out;have:=HK2.out;have:=HK3.out;omega⟩,⟨ra A5⟩,⟨by exact tb HB⟩⟩
             ·rw [if_neg c14] at H;exact absurd H (by simp)
            ·rw [if_neg c13] at H;exact absurd H (by simp)
           ·rw [if_neg c12] at H;have c12b0:decide (A2 < (A3.length:Int))=false:=decide_eq_false c12;clear c12;have H':=Aside0.mk H;clear H;obtain ⟨Ao27,co27,eo27⟩:=Kd.R_slice A8.out;subst eo27;go_wp2;go_roundg k3
            case measure=>have:=HK1.out;have:=HK2.out;have:=HK3.out;omega
            case rel=>exact ⟨(A4),(wrap64 (A1 - 1)),(by first|rfl|(simp;done)|(simp [*];done)),H',⟨by have:=HK1.out;have:=HK2.out;have:=HK3.out;omega⟩,⟨ra A5⟩,⟨by exact tb HB⟩⟩
        ·rw [if_neg c9] at H;exact absurd H (by simp)
       ·rw [if_neg c8] at H;exact absurd H (by simp)
      ·rw [if_neg c7] at H;have c7b0:decide (0≤A1)=false:=decide_eq_false c7;clear c7;obtain rfl:=os H;go_wp2;go_ret;exact ⟨_,er,ra A5,tb HB⟩
def snW:Nat→List S52→List Bool→Int→List Int→Option (Option (List Int))
 | 0,_,_,_,_=>none
 | k + 1,l,is,i,ws=>if i < (l.length:Int) then (if 0≤i∧i < (is.length:Int) then (if rdOf false is i=true∧quB (rd_T52 l i).f0=true then (if 0≤(rd_T52 l i).f2∧(rd_T52 l i).f2 < (ws.length:Int) then (if rd ws (rd_T52 l i).f2=0 then snW k l is (wrap64 (i + 1)) (ws.set (rd_T52 l i).f2.toNat (rd_T52 l i).f4) else some none) else none) else snW k l is (wrap64 (i + 1)) ws) else none) else some (some ws)
def snP:Nat→List Int→Int→List Int→Option (List Int)
 | 0,_,_,_=>none
 | k + 1,ps,j,us=>if j < (ps.length:Int) then (if 0≤j∧(0≤rd ps j∧rd ps j < (us.length:Int)) then snP k ps (wrap64 (j + 1)) (us.set (rd ps j).toNat (wrap64 (rd us (rd ps j) + 1))) else none) else some us
def snU:Nat→List S52→List Bool→List Bool→List Int→Int→List Int→Option (Option (List Int))
 | 0,_,_,_,_,_,_=>none
 | k + 1,l,is,hs,ws,i,us=>if i < (l.length:Int) then (if 0≤i∧(i < (is.length:Int)∧i < (hs.length:Int)) then (if rdOf false is i=true then (if (rd_T52 l i).f0=1→0≤(rd_T52 l i).f2∧(rd_T52 l i).f2 < (ws.length:Int) then (if ((rd_T52 l i).f0=1∧rd ws (rd_T52 l i).f2≠(rd_T52 l i).f1)∨(rdOf false hs i=true∧ouB (rd_T52 l i).f0=false) then some none else (spec_Parts.f k (rd_T52 l i).f0 (rd_T52 l i).f1 (rd_T52 l i).f2 (rd_T52 l i).f3 (rd_T52 l i).f4 (rd_T52 l i).f5).bind fun ps=>(snP k ps 0 us).bind fun us'=>snU k l is hs ws (wrap64 (i + 1)) us') else none) else snU k l is hs ws (wrap64 (i + 1)) us) else none) else some (some us)
def snH:Nat→List S52→List Bool→List Bool→List Int→Int→Option Bool
 | 0,_,_,_,_,_=>none
 | k + 1,l,is,hs,us,i=>if i < (l.length:Int) then (if 0≤i∧(i < (is.length:Int)∧(i < (hs.length:Int)∧i < (us.length:Int))) then (if rdOf false is i=true∧(rdOf false hs i=true∧1 < rd us i) then some false else snH k l is hs us (wrap64 (i + 1))) else none) else some true
def snR (k:Nat) (l:List S52) (is hs:List Bool):Option Bool:=(snW k l is 0 (List.replicate 8 0)).bind fun o=>match o with
 | none=>some false
 | some ws=>if l.length < 17592186044416 then (snU k l is hs ws 0 (List.replicate l.length 0)).bind fun o=>match o with
  | none=>some false
  | some us=>snH k l is hs us 0
 else none
def spec_Sentence.f (k:Nat) (l:List S52):Option Bool:=(spec_TermOk.f k l).bind fun t=>if t=true then (if 0≤wrap64 ((l.length:Int) - 1)∧wrap64 ((l.length:Int) - 1) < (l.length:Int) then (if (rd_T52 l (wrap64 ((l.length:Int) - 1))).f1=1 then (spec_Free.f k l).bind fun fr=>if 0 < fr.length then some false else (spec_l02Reach.f k l).bind fun is=>(spec_l02Holder.f k l).bind fun hs=>snR k l is hs else some false) else none) else some false
theorem spec_Sentence.calls (k:Nat) (A0:Option Addr) (c0:Nat) (l0:List (S52)) (r:Bool) (w:World) (hr0:Kd.C k52 w A0 l0.length l0) (hc0:l0.length≤c0) (h:spec_Sentence.f k l0=some r) :
  Calls Tryz.prog 24 #[.slice A0 l0.length c0] w fun e w'=>e = .returned (.bool r)∧Below w.heap.size w w':=by
 have HR:=Aside0.mk hr0;have HC:=Aside0.mk hc0;have HB:=Aside0.mk (Below.refl w.heap.size w);clear hr0 hc0;unfold spec_Sentence.f at h;obtain ⟨t,ht,h⟩:=Option.bind_eq_some_iff.1 h;have HT:=Aside0.mk ht;clear ht
 cases t with
 | false =>
  rw [if_neg (by decide)] at h;obtain rfl:=Option.some.inj h;clear h
  go_enter Tryz.func24,Tryz.ntmps24
  go_wp2_with (first|(go_at_call 55;(try simp only [i64_w,i32_w]);(with_reducible refine (spec_TermOk.calls k _ c0 l0 _ _ (Kd.C_below HR.out (tb HB)) HC.out HT.out).mono ?_);rintro e w2 ⟨rfl,hb⟩;have HB_:=Aside0.mk (below_step (tb HB) hb);skip;clear HB;have HB:=HB_;clear HB_ hb))
  (go_ret;exact ⟨by first|rfl|(simp;done),(tb HB)⟩)
 | true =>
 rw [if_pos rfl] at h
 by_cases c3:0≤wrap64 ((l0.length:Int) - 1)∧wrap64 ((l0.length:Int) - 1) < (l0.length:Int)
 case neg=>rw [if_neg c3] at h;cases h
 rw [if_pos c3] at h;obtain ⟨c3,c4⟩:=c3;obtain ⟨ad,e_,_,hq,_⟩:=at_T52 HR.out _ c3 c4;cases e_;have HQ:=Aside0.mk hq;clear hq;have d3:decide (0≤wrap64 ((l0.length:Int) - 1))=true:=decide_eq_true c3;have d4:decide (wrap64 ((l0.length:Int) - 1) < (l0.length:Int))=true:=decide_eq_true c4;replace c3:=eq_true c3;replace c4:=eq_true c4
 by_cases b0:(rd_T52 l0 (wrap64 ((l0.length:Int) - 1))).f1=1
 case neg =>
  rw [if_neg b0] at h;obtain rfl:=Option.some.inj h;replace b0:=bne_iff_ne.2 b0;clear h
  go_enter Tryz.func24,Tryz.ntmps24
  go_wp2_with (first|(go_at_call 55;(try simp only [i64_w,i32_w]);(with_reducible refine (spec_TermOk.calls k _ c0 l0 _ _ (Kd.C_below HR.out (tb HB)) HC.out HT.out).mono ?_);rintro e w2 ⟨rfl,hb⟩;have HB_:=Aside0.mk (below_step (tb HB) hb);have hq_:=ct_ HB_ HQ.out;clear HB;have HB:=HB_;clear HB_ hb))
  (go_ret;exact ⟨by first|rfl|(simp;done),(tb HB)⟩)
 rw [if_pos b0] at h;replace b0:=bne_eq_false_iff_eq.2 b0;obtain ⟨fr,hf,h⟩:=Option.bind_eq_some_iff.1 h;have HF:=Aside0.mk hf;clear hf
 by_cases b1:0 < fr.length
 ·rw [if_pos b1] at h;obtain rfl:=Option.some.inj h;have b2:=decide_eq_true b1;clear h
  go_enter Tryz.func24,Tryz.ntmps24
  go_wp2_with (first|(go_at_call 55;(try simp only [i64_w,i32_w]);(with_reducible refine (spec_TermOk.calls k _ c0 l0 _ _ (Kd.C_below HR.out (tb HB)) HC.out HT.out).mono ?_);rintro e w2 ⟨rfl,hb⟩;have HB_:=Aside0.mk (below_step (tb HB) hb);have hq_:=ct_ HB_ HQ.out;clear HB;have HB:=HB_;clear HB_ hb)|(go_at_call 56;(try simp only [i64_w,i32_w]);(with_reducible refine (spec_Free.calls k _ c0 l0 _ _ (Kd.C_below HR.out (tb HB)) HC.out HF.out).mono ?_);rintro e w3 ⟨v29,rfl,ho,hb⟩;have HB_:=Aside0.mk (below_step (tb HB) hb);obtain ⟨Af,cf,ef⟩:=Kd.R_slice ho;subst ef;clear ho;clear HB;have HB:=HB_;clear HB_ hb))
  (go_ret;exact ⟨by first|rfl|(simp;done),(tb HB)⟩)
 rw [if_neg b1] at h;have b2:=decide_eq_false b1;have b3:=decide_eq_false (show ¬ (0:Int) < (fr.length:Int) by omega);clear b1;obtain ⟨is,hi,h⟩:=Option.bind_eq_some_iff.1 h;obtain ⟨hs,hh,h⟩:=Option.bind_eq_some_iff.1 h;have HI:=Aside0.mk hi;have HH:=Aside0.mk hh;unfold snR at h;obtain ⟨ows,hw,h⟩:=Option.bind_eq_some_iff.1 h;have HW:=Aside0.mk hw;have H0:=Aside0.mk h;clear hi hh hw h
 go_enter Tryz.func24,Tryz.ntmps24
 go_upto_block 0 with (first|(go_at_call 55;(try simp only [i64_w,i32_w]);(with_reducible refine (spec_TermOk.calls k _ c0 l0 _ _ (Kd.C_below HR.out (tb HB)) HC.out HT.out).mono ?_);rintro e w2 ⟨rfl,hb⟩;have HB_:=Aside0.mk (below_step (tb HB) hb);have hq_:=ct_ HB_ HQ.out;clear HB;have HB:=HB_;clear HB_ hb)|(go_at_call 56;(try simp only [i64_w,i32_w]);(with_reducible refine (spec_Free.calls k _ c0 l0 _ _ (Kd.C_below HR.out (tb HB)) HC.out HF.out).mono ?_);rintro e w3 ⟨v29,rfl,ho,hb⟩;have HB_:=Aside0.mk (below_step (tb HB) hb);obtain ⟨Af,cf,ef⟩:=Kd.R_slice ho;subst ef;clear ho;clear HB;have HB:=HB_;clear HB_ hb)|(go_at_call 57;(try simp only [i64_w,i32_w]);(with_reducible refine (spec_l02Reach.calls k _ c0 l0 _ _ (Kd.C_below HR.out (tb HB)) HC.out HI.out).mono ?_);rintro e w4 ⟨v34,rfl,ho,hb⟩;have HB_:=Aside0.mk (below_step (tb HB) hb);have HIS:=Aside0.mk (Kd.R_lower ho (below_size (tb HB)));clear ho;clear HB;have HB:=HB_;clear HB_ hb)|(go_at_call 26;(try simp only [i64_w,i32_w]);(with_reducible refine (spec_l02Holder.calls k _ c0 l0 _ _ (Kd.C_below HR.out (tb HB)) HC.out HH.out).mono ?_);rintro e wa ⟨v36,rfl,ho,hb⟩;have HB_:=Aside0.mk (below_step (tb HB) hb);have HHS:=Aside0.mk (Kd.R_lower ho (below_size (tb HB)));have HIS_:=Aside0.mk (Kd.R_below HIS.out hb);clear HIS ho;have HIS:=HIS_;clear HIS_;clear HB;have HB:=HB_;clear HB_ hb)|((with_reducible refine gate_dst (N:=37) rfl ?_);refine Kd.R_lit (Kd.int .i64) _ 3 ?hg (N:=37) ?hd (xs:=([]:List Int)) (inner:=[]) (ok:=fun _=>True) (okp:=fun _=>True) ?hr ?hp (fun _ hk=>hk) trivial (Below.refl _ _) (Nat.le_refl _) (by simp) ?_;(case hd=>rfl);(case hg=>rfl);(case hr=>first|(go_simp;done)|(go_simp;rfl));(case hp=>exact (Reps.none _ _));intro v102 w1 ho hb hg_ hnew_;clear hg_ hnew_;have A1:=Aside0.mk ho;have HB1:=Aside0.mk hb;clear ho hb))
 obtain ⟨Ai,ci,ei⟩:=Kd.R_slice HIS.out;subst ei;obtain ⟨Ah,ch,eh⟩:=Kd.R_slice HHS.out;subst eh
 go_cut [5] (fun v wx=>Aside0 (Below wa.heap.size wa wx)∧Aside0 (Kd.R (Kd.int .i64) 3 wx wa.heap.size (fun _=>True) v (List.replicate 8 0)))
 case first=>as_aux_lemma =>
  go_wp2_with fail
  go_loopg [5,6] (8 + 1) (fun kq v5 v6 wr=>∃ (i:Int),v6 = .int .i64 i∧Aside0 (0≤i∧i≤8∧(8 - i).toNat < kq)∧Aside0 (Kd.R (Kd.int .i64) 3 wr wa.heap.size (fun _=>True) v5 (List.replicate i.toNat 0))∧Aside0 (Below wa.heap.size wa wr))
  case atStart=>exact ⟨0,rfl,⟨by omega⟩,A1,HB1⟩
  case round =>
   clear A1 HB1;obtain ⟨i,rfl,HJ,HO,HBx⟩:=hrel;obtain ⟨Av,cv,ev⟩:=Kd.R_slice HO.out;subst ev
   by_cases c5:i < 8
   ·have d5:decide (i < 8)=true:=decide_eq_true c5;have LM:=Aside0.mk (show i.toNat < 17592186044416 by have:=HJ.out;skip;omega);have HJ2:=Aside0.mk (show wrap64 (i + 1)=i + 1 by have:=HJ.out;have:=LM.out;unfold wrap64;omega);have C5:=Aside0.mk c5;clear c5
    cases gk with
    | zero=>exact absurd HJ.out.2.2 (by omega)
    | succ k1 =>
    go_wp2_with (first|((with_reducible refine gate_builtin (b := .append) (xs:=#[.tmp 42,.tmp 43]) rfl ?_);at_builtin;refine Kd.R_append (Kd.int .i64) (w0:=wa) wa.heap.size rfl (.tmp 42) (.tmp 43) 42 3 (.int .i64 0) 8 rfl Tryz.underlying42 info3 rfl (by decide) (by omega) (.slice Av (List.replicate i.toNat (0:Int)).length cv) (List.replicate i.toNat 0) 0 [.int .i64 0] (fun _=>True) (fun _=>False) rfl rfl ?aP (fun _ hk=>hk.elim) ?aF ?aO ?aB ?aS ?aL ?_;(case aP=>exact rfl);(case aB=>exact (by repeat (first|(with_reducible first|exact HBx.out|apply below_alloc|apply pw_below_drewN|apply below_drew1)|exact HBx.out)));(case aF=>exact (fun _ _=>trivial));(case aO=>exact (ra HO));(case aS=>exact (below_size (by repeat (first|(with_reducible first|exact HBx.out|apply below_alloc|apply pw_below_drewN|apply below_drew1)|exact HBx.out))));(case aL=>rw [List.length_replicate];have:=LM.out;omega);intro v105 w6 ho hb hg hat;have HB6:=Aside0.mk hb;have HO6:=Aside0.mk ho;clear ho hb hg hat));go_roundg k1
    case measure=>omega
    case rel=>exact ⟨wrap64 (i + 1),rfl,⟨by have:=HJ.out;have:=HJ2.out;have:=C5.out;omega⟩,⟨by rw [HJ2.out,show (i + 1).toNat=i.toNat + 1 by have:=HJ.out;omega,List.replicate_succ'];exact HO6.out⟩,HB6⟩
   ·have d5:decide (i < 8)=false:=decide_eq_false c5;have e5:=Aside0.mk (show i.toNat=8 by have:=HJ.out;omega);clear c5;go_wp2;go_meet;exact ⟨HBx,⟨by rw [← e5.out];exact HO.out⟩⟩

 case rest =>
 clear A1 HB1;obtain ⟨HBx,HO⟩:=hcut;obtain ⟨Aw,cw,ew⟩:=Kd.R_slice HO.out;subst ew;rw [List.length_replicate] at HO;simp only [List.length_replicate]
 go_upto_block 2 with (fail)
 go_cut [7] (fun _ wx=>∃ ws:List Int,Aside0 (ows=some ws)∧Aside0 (Below wa.heap.size wa wx)∧Aside0 (Kd.R (Kd.int .i64) 3 wx wa.heap.size (fun _=>True) (.slice Aw 8 cw) ws))
 case first=>as_aux_lemma =>
  go_wp2_with fail
  go_loopg [7] k (fun kq v7 wr=>∃ (i:Int) (ws:List Int),v7 = .int .i64 i∧Aside0 (snW kq l0 is i ws=some ows)∧Aside0 (kq≤k)∧Aside0 (Kd.R (Kd.int .i64) 3 wr wa.heap.size (fun _=>True) (.slice Aw 8 cw) ws)∧Aside0 (Below wa.heap.size wa wr))
  case atStart=>exact ⟨0,_,rfl,HW,⟨Nat.le_refl _⟩,HO,HBx⟩
  case round =>
   clear HW HO HBx;obtain ⟨i,ws,rfl,HA,HK1,HO,HBx⟩:=hrel
   cases gk with
   | zero=>exact absurd HA.out (by simp [snW])
   | succ k1 =>
   have H:=HA.out;clear HA;simp only [snW] at H
   by_cases c5:i < (l0.length:Int)
   ·rw [if_pos c5] at H
    by_cases c6:0≤i∧i < (is.length:Int)
    case neg=>rw [if_neg c6] at H;cases H
    rw [if_pos c6] at H;obtain ⟨c6,c7⟩:=c6;obtain ⟨ai,e_,him⟩:=Kd.at_bool (Kd.R_reads' HIS.out).2.2 i c6 c7;cases e_;replace him:=ct_ HBx him;obtain ⟨ad2,e_,hx⟩:=at_T52 (Kd.C_below HR.out HB.out) i c6 c5;obtain rfl:ad=ad2:=(by injection e_);clear e_;obtain ⟨hx0,_,hx2,_,hx4,_⟩:=hx;replace hx0:=ct_ HBx hx0;replace hx2:=ct_ HBx hx2;replace hx4:=ct_ HBx hx4;have d5:decide (i < (l0.length:Int))=true:=decide_eq_true c5;have d6:decide (0≤i)=true:=decide_eq_true c6;have d7:decide (i < (is.length:Int))=true:=decide_eq_true c7;replace c5:=eq_true c5;replace c6:=eq_true c6;replace c7:=eq_true c7
    by_cases c8:rdOf false is i=true∧quB (rd_T52 l0 i).f0=true
    ·rw [if_pos c8] at H;obtain ⟨b4,b5⟩:=c8;rw [b4] at him
     by_cases c9:0≤(rd_T52 l0 i).f2∧(rd_T52 l0 i).f2 < (ws.length:Int)
     case neg=>rw [if_neg c9] at H;cases H
     rw [if_pos c9] at H;obtain ⟨c9,c10⟩:=c9;have hl8:=(Kd.R_reads' HO.out).1;obtain ⟨gw,cw2,ew,GW,_,_⟩:=Kd.R_form HO.out (by omega)
     obtain ⟨rfl,rfl⟩:Aw=some ⟨gw,0,none⟩∧cw=cw2:=by injection ew;exact ⟨by assumption,by assumption⟩
     rw [← hl8] at c10;clear ew hl8;obtain ⟨hy,hyf⟩:=Kd.R_celln (0:Int) HO.out _ c9 c10
     change wr.cell? _=some (.int .i64 (rd ws (rd_T52 l0 i).f2)) at hy
     have d9:decide (0≤(rd_T52 l0 i).f2)=true:=decide_eq_true c9;have d10:decide ((rd_T52 l0 i).f2 < 8)=true:=decide_eq_true c10;have d11:decide ((rd_T52 l0 i).f2 < ((8:Nat):Int))=true:=decide_eq_true c10;have c11:((rd_T52 l0 i).f2 < 8)=True:=eq_true c10;replace c9:=eq_true c9;replace c10:=eq_true c10
     by_cases b6:rd ws (rd_T52 l0 i).f2=0
     case neg =>
      rw [if_neg b6] at H;replace b6:=bne_iff_ne.2 b6;obtain rfl:=os H;obtain rfl:=Option.some.inj H0.out;clear H b4
      (go_wp2_with (first|(go_at_call 58;(try simp only [i64_w,i32_w]);(with_reducible refine (quC _ _).mono ?_);rintro e w' ⟨rfl,⟨nd,rfl⟩⟩;(try exact dd)));(repeat (go_quiet (first|(go_at_call 58;(try simp only [i64_w,i32_w]);(with_reducible refine (quC _ _).mono ?_);rintro e w' ⟨rfl,⟨nd,rfl⟩⟩;(try exact dd)));try go_wp2_with (first|(go_at_call 58;(try simp only [i64_w,i32_w]);(with_reducible refine (quC _ _).mono ?_);rintro e w' ⟨rfl,⟨nd,rfl⟩⟩;(try exact dd))))))
      go_ret;exact ⟨by first|rfl|(simp;done),below_then HB.out HB.out.size (by repeat (first|(with_reducible first|exact HBx.out|apply below_alloc|apply pw_below_drewN|apply below_drew1)|exact HBx.out))⟩
     rw [if_pos b6] at H;have b7:=bne_eq_false_iff_eq.2 b6;have H':=Aside0.mk H;have GW_:=Aside0.mk GW;clear H b6 GW b4
     go_upto_region 15 with (first|(go_at_call 58;(try simp only [i64_w,i32_w]);(with_reducible refine (quC _ _).mono ?_);rintro e w' ⟨rfl,⟨nd,rfl⟩⟩;(try exact dd)))
     refine start_ (n:=13) (S:=fun w'=>∀ p,w'.cell? p=wr.cell? p) (ds:=[12]) (tF 0 13) (by kernel_rfl) rfl rfl (fun _=>rfl) (fun hHeld=>?_)
     repeat (first|(refine pureQ (v:=undef) (a':=?_) rfl rfl (by kernel_rfl) (fun _ _ _ h=>h) (Or.inr ⟨by rfl,rfl⟩) ?_ ?_;rotate_left;(simp only [Act.put,List.replicate,List.cons_append,List.nil_append,List.append_nil,List.setIfInBounds_toArray,List.set_cons_zero,List.set_cons_succ,i64_w,i32_w];rfl))|(refine pureQ (v:=?_) (a':=?_) rfl rfl (by kernel_rfl) (fun _ _ _ h=>h) (Or.inl ⟨by rfl,?_⟩) ?_ ?_;rotate_left;(intro w';go_simp;with_reducible rfl);rotate_left;(simp only [Act.put,List.replicate,List.cons_append,List.nil_append,List.append_nil,List.setIfInBounds_toArray,List.set_cons_zero,List.set_cons_succ,i64_w,i32_w];rfl))|(refine takeQ (v:=?_) (a':=?_) rfl rfl (by kernel_rfl) (fun _ _ _ h=>h) (Or.inl ⟨by rfl,?_⟩) hHeld ?_ ?_;rotate_left;(intro w' s0;go_simp;with_reducible rfl);rotate_left;(simp only [Act.put,List.replicate,List.cons_append,List.nil_append,List.append_nil,List.setIfInBounds_toArray,List.set_cons_zero,List.set_cons_succ,i64_w,i32_w];rfl)))
     refine lastQ (w1:=?_) rfl rfl (by kernel_rfl) (by decide) (by rfl) ?_ (by kernel_rfl) ?_;rotate_left;(go_simp;rfl);go_wp2;go_roundg k1
     case measure=>have:=HK1.out;omega
     case rel=>exact ⟨wrap64 (i + 1),_,rfl,H',⟨by have:=HK1.out;omega⟩,⟨(Kd.R_putg (Kd.R_drew (Kd.R_drewN HO.out _)) (rd_T52 l0 i).f2 (rd_T52 l0 i).f4).1⟩,⟨below_set (below_drew1 (pw_below_drewN HBx.out _)) GW_.out⟩⟩
    ·rw [if_neg c8] at H;have H':=Aside0.mk H;have b4:=nand2 c8;clear H c8
     rcases b4 with b4 | ⟨b4,b5⟩
     all_goals (rw [b4] at him;clear b4;(go_wp2_with (first|(go_at_call 58;(try simp only [i64_w,i32_w]);(with_reducible refine (quC _ _).mono ?_);rintro e w' ⟨rfl,⟨nd,rfl⟩⟩;(try exact dd)));(repeat (go_quiet (first|(go_at_call 58;(try simp only [i64_w,i32_w]);(with_reducible refine (quC _ _).mono ?_);rintro e w' ⟨rfl,⟨nd,rfl⟩⟩;(try exact dd)));try go_wp2_with (first|(go_at_call 58;(try simp only [i64_w,i32_w]);(with_reducible refine (quC _ _).mono ?_);rintro e w' ⟨rfl,⟨nd,rfl⟩⟩;(try exact dd))))));go_roundg k1;(case measure=>have:=HK1.out;omega);(case rel=>exact ⟨wrap64 (i + 1),_,rfl,H',⟨by have:=HK1.out;omega⟩,⟨(ra HO)⟩,⟨(by repeat (first|(with_reducible first|exact HBx.out|apply below_alloc|apply pw_below_drewN|apply below_drew1)|exact HBx.out))⟩⟩))
   ·rw [if_neg c5] at H;have d5:decide (i < (l0.length:Int))=false:=decide_eq_false c5;obtain rfl:=os H;clear H c5;go_wp2;go_meet;exact ⟨ws,⟨rfl⟩,HBx,HO⟩
 case rest =>
 clear HO HBx HW;obtain ⟨ws,HE,HBx,HO⟩:=hcut;obtain rfl:=HE.out;have h:=H0.out
 dsimp only at h
 by_cases lm:l0.length < 17592186044416
 case neg=>rw [if_neg lm] at h;cases h
 rw [if_pos lm] at h;have LEN:=Aside0.mk lm;obtain ⟨ous,hu,h⟩:=Option.bind_eq_some_iff.1 h;have HU:=Aside0.mk hu;clear H0 HE;have H0:=Aside0.mk h;clear lm hu h;obtain ⟨wb,hwb⟩:∃ W:World,W=wc:=⟨_,rfl⟩;rw [← hwb] at HBx HO ⊢;clear hwb;have CI:=Aside0.mk (Kd.C_below (Kd.R_reads' HIS.out).2.2 HBx.out);have CH:=Aside0.mk (Kd.C_below (Kd.R_reads' HHS.out).2.2 HBx.out);have CN:=Aside0.mk (Kd.C_below (Kd.C_below HR.out HB.out) HBx.out);have CW:=Aside0.mk (Kd.R_reads' HO.out).2.2;have L8:=Aside0.mk (Kd.R_reads' HO.out).1;clear HIS HHS HO
 go_upto_block 4 with (first|((with_reducible refine gate_dst (N:=84) rfl ?_);refine Kd.R_lit (Kd.int .i64) _ 3 ?hg (N:=84) ?hd (xs:=([]:List Int)) (inner:=[]) (ok:=fun _=>True) (okp:=fun _=>True) ?hr ?hp (fun _ hk=>hk) trivial (Below.refl _ _) (Nat.le_refl _) (by simp) ?_;(case hd=>rfl);(case hg=>rfl);(case hr=>first|(go_simp;done)|(go_simp;rfl));(case hp=>exact (Reps.none _ _));intro v102 w1 ho hb hg_ hnew_;clear hg_ hnew_;have A1:=Aside0.mk ho;have HB1:=Aside0.mk hb;clear ho hb))
 go_cut [8] (fun v wx=>Aside0 (Below wb.heap.size wb wx)∧Aside0 (Kd.R (Kd.int .i64) 3 wx wb.heap.size (fun _=>True) v (List.replicate l0.length 0)))
 case first=>as_aux_lemma =>
  go_wp2_with fail
  go_loopg [8,9] (l0.length + 1) (fun kq v5 v6 wr=>∃ (i:Int),v6 = .int .i64 i∧Aside0 (0≤i∧i≤(l0.length:Int)∧((l0.length:Int) - i).toNat < kq)∧Aside0 (Kd.R (Kd.int .i64) 3 wr wb.heap.size (fun _=>True) v5 (List.replicate i.toNat 0))∧Aside0 (Below wb.heap.size wb wr))
  case atStart=>exact ⟨0,rfl,⟨by omega⟩,A1,HB1⟩
  case round =>
   clear A1 HB1;obtain ⟨i,rfl,HJ,HO,HBx⟩:=hrel;obtain ⟨Av,cv,ev⟩:=Kd.R_slice HO.out;subst ev
   by_cases c5:i < (l0.length:Int)
   ·have d5:decide (i < (l0.length:Int))=true:=decide_eq_true c5;have LM:=Aside0.mk (show i.toNat < 17592186044416 by have:=HJ.out;have:=LEN.out;omega);have HJ2:=Aside0.mk (show wrap64 (i + 1)=i + 1 by have:=HJ.out;have:=LM.out;unfold wrap64;omega);have C5:=Aside0.mk c5;clear c5
    cases gk with
    | zero=>exact absurd HJ.out.2.2 (by omega)
    | succ k1 =>
    go_wp2_with (first|((with_reducible refine gate_builtin (b := .append) (xs:=#[.tmp 91,.tmp 92]) rfl ?_);at_builtin;refine Kd.R_append (Kd.int .i64) (w0:=wb) wb.heap.size rfl (.tmp 91) (.tmp 92) 42 3 (.int .i64 0) 8 rfl Tryz.underlying42 info3 rfl (by decide) (by omega) (.slice Av (List.replicate i.toNat (0:Int)).length cv) (List.replicate i.toNat 0) 0 [.int .i64 0] (fun _=>True) (fun _=>False) rfl rfl ?aP (fun _ hk=>hk.elim) ?aF ?aO ?aB ?aS ?aL ?_;(case aP=>exact rfl);(case aB=>exact (by repeat (first|(with_reducible first|exact HBx.out|apply below_alloc|apply pw_below_drewN|apply below_drew1)|exact HBx.out)));(case aF=>exact (fun _ _=>trivial));(case aO=>exact (ra HO));(case aS=>exact (below_size (by repeat (first|(with_reducible first|exact HBx.out|apply below_alloc|apply pw_below_drewN|apply below_drew1)|exact HBx.out))));(case aL=>rw [List.length_replicate];have:=LM.out;omega);intro v105 w6 ho hb hg hat;have HB6:=Aside0.mk hb;have HO6:=Aside0.mk ho;clear ho hb hg hat));go_roundg k1
    case measure=>omega
    case rel=>exact ⟨wrap64 (i + 1),rfl,⟨by have:=HJ.out;have:=HJ2.out;have:=C5.out;omega⟩,⟨by rw [HJ2.out,show (i + 1).toNat=i.toNat + 1 by have:=HJ.out;omega,List.replicate_succ'];exact HO6.out⟩,HB6⟩
   ·have d5:decide (i < (l0.length:Int))=false:=decide_eq_false c5;have e5:=Aside0.mk (show i.toNat=l0.length by have:=HJ.out;omega);clear c5;go_wp2;go_meet;exact ⟨HBx,⟨by rw [← e5.out];exact HO.out⟩⟩

 case rest =>
 clear A1 HB1;obtain ⟨HBy,HO⟩:=hcut;obtain ⟨Au,cu,eu⟩:=Kd.R_slice HO.out;subst eu;have HL0:=Aside0.mk (show (List.replicate l0.length (0:Int)).length=l0.length from List.length_replicate);generalize List.replicate l0.length (0:Int)=us0 at HU HO HL0 ⊢
 go_upto_block 6 with (fail)
 go_cut [10] (fun _ wx=>∃ us:List Int,Aside0 (ous=some us)∧Aside0 (us.length=us0.length)∧Aside0 (Below wb.heap.size wb wx)∧Aside0 (Kd.R (Kd.int .i64) 3 wx wb.heap.size (fun _=>True) (.slice Au us0.length cu) us))
 case first=>as_aux_lemma =>
  go_wp2_with fail
  go_loopg [10] k (fun kq v10 wr=>∃ (i:Int) (us:List Int),v10 = .int .i64 i∧Aside0 (snU kq l0 is hs ws i us=some ous)∧Aside0 (kq≤k)∧Aside0 (us.length=us0.length)∧Aside0 (Kd.R (Kd.int .i64) 3 wr wb.heap.size (fun _=>True) (.slice Au us0.length cu) us)∧Aside0 (Below wb.heap.size wb wr))
  case atStart=>exact ⟨0,_,rfl,HU,⟨Nat.le_refl _⟩,⟨rfl⟩,HO,HBy⟩
  case round =>
   clear HU HO HBy;obtain ⟨i,us,rfl,HA,HK1,HLU,HO,HBy⟩:=hrel
   cases gk with
   | zero=>exact absurd HA.out (by simp [snU])
   | succ k1 =>
   have H:=HA.out;clear HA;simp only [snU] at H
   by_cases c5:i < (l0.length:Int)
   ·rw [if_pos c5] at H
    by_cases c6:0≤i∧(i < (is.length:Int)∧i < (hs.length:Int))
    case neg=>rw [if_neg c6] at H;cases H
    rw [if_pos c6] at H;obtain ⟨c6,c7,c8⟩:=c6;have C56:=Aside0.mk (show 0 < l0.length by omega);obtain ⟨ai,e_,him⟩:=Kd.at_bool CI.out i c6 c7;cases e_;obtain ⟨ah,e_,hhm⟩:=Kd.at_bool CH.out i c6 c8;cases e_;obtain ⟨ad2,e_,hx0,hx1,hx2,hx3,hx4,hx5⟩:=at_T52 CN.out i c6 c5;obtain rfl:ad=ad2:=(by injection e_);clear e_;replace him:=ct_ HBy him;replace hhm:=ct_ HBy hhm;replace hx0:=ct_ HBy hx0;replace hx1:=ct_ HBy hx1;replace hx2:=ct_ HBy hx2;replace hx3:=ct_ HBy hx3;replace hx4:=ct_ HBy hx4;replace hx5:=ct_ HBy hx5;have d5:decide (i < (l0.length:Int))=true:=decide_eq_true c5;have d6:decide (0≤i)=true:=decide_eq_true c6;have d7:decide (i < (is.length:Int))=true:=decide_eq_true c7;have d8:decide (i < (hs.length:Int))=true:=decide_eq_true c8;replace c5:=eq_true c5;replace c6:=eq_true c6;replace c7:=eq_true c7;replace c8:=eq_true c8
    cases b4:rdOf false is i with
    | false =>
     rw [if_neg (by rw [b4];decide)] at H;rw [b4] at him;have H':=Aside0.mk H;clear H b4;go_wp2;go_roundg k1
     case measure=>have:=HK1.out;omega
     case rel=>exact ⟨wrap64 (i + 1),_,rfl,H',⟨by have:=HK1.out;omega⟩,HLU,⟨(ra HO)⟩,⟨(by repeat (first|(with_reducible first|exact HBy.out|apply below_alloc|apply pw_below_drewN|apply below_drew1)|exact HBy.out))⟩⟩
    | true =>
    rw [if_pos b4] at H;rw [b4] at him;clear b4
    by_cases c9:(rd_T52 l0 i).f0=1→0≤(rd_T52 l0 i).f2∧(rd_T52 l0 i).f2 < (ws.length:Int)
    case neg=>rw [if_neg c9] at H;cases H
    rw [if_pos c9] at H;have C9:=Aside0.mk c9;clear c9
    have hyw:(rd_T52 l0 i).f0=1→∃ aw,Aw=some aw∧wr.cell? (aw.add (rd_T52 l0 i).f2.toNat)=some (.int .i64 (rd ws (rd_T52 l0 i).f2)):=fun h=>by
     obtain ⟨aw,ee1,ee2⟩:=Kd.at_int CW.out _ (C9.out h).1 (C9.out h).2;exact ⟨aw,ee1,ct_ HBy ee2⟩
    have HYW:=Aside0.mk hyw;clear hyw
    by_cases c10:((rd_T52 l0 i).f0=1∧rd ws (rd_T52 l0 i).f2≠(rd_T52 l0 i).f1)∨(rdOf false hs i=true∧ouB (rd_T52 l0 i).f0=false)
    ·rw [if_pos c10] at H;obtain rfl:=os H;obtain rfl:=Option.some.inj H0.out;clear H
     by_cases z1:(rd_T52 l0 i).f0=1
     ·have ee1:=beq_iff_eq.2 z1;obtain ⟨aw,e_,hy⟩:=HYW.out z1;cases e_;have c11:=(C9.out z1).1;have c12:=(C9.out z1).2;rw [← L8.out] at c12;have d11:decide (0≤(rd_T52 l0 i).f2)=true:=decide_eq_true c11;have d12:decide ((rd_T52 l0 i).f2 < 8)=true:=decide_eq_true c12;have d13:decide ((rd_T52 l0 i).f2 < ((8:Nat):Int))=true:=decide_eq_true c12;have c13:((rd_T52 l0 i).f2 < 8)=True:=eq_true c12;replace c11:=eq_true c11;replace c12:=eq_true c12
      by_cases z2:rd ws (rd_T52 l0 i).f2=(rd_T52 l0 i).f1
      ·have ee2:=bne_eq_false_iff_eq.2 z2;obtain ⟨b5,b6⟩:=c10.resolve_left (fun h=>h.2 z2);rw [b5] at hhm;clear c10 z1 z2 b5
       (go_wp2_with (first|(go_at_call 59;(try simp only [i64_w,i32_w]);(with_reducible refine (ouC _ _).mono ?_);rintro e w' ⟨rfl,⟨nd,rfl⟩⟩;(try exact dd)));(repeat (go_quiet (first|(go_at_call 59;(try simp only [i64_w,i32_w]);(with_reducible refine (ouC _ _).mono ?_);rintro e w' ⟨rfl,⟨nd,rfl⟩⟩;(try exact dd)));try go_wp2_with (first|(go_at_call 59;(try simp only [i64_w,i32_w]);(with_reducible refine (ouC _ _).mono ?_);rintro e w' ⟨rfl,⟨nd,rfl⟩⟩;(try exact dd))))))
       go_ret;exact ⟨by first|rfl|(simp;done),(below_then HB.out HB.out.size (below_then HBx.out HBx.out.size (by repeat (first|(with_reducible first|exact HBy.out|apply below_alloc|apply pw_below_drewN|apply below_drew1)|exact HBy.out))))⟩
      ·have ee2:=bne_iff_ne.2 z2;clear c10 z1 z2
       (go_wp2_with (first|(go_at_call 59;(try simp only [i64_w,i32_w]);(with_reducible refine (ouC _ _).mono ?_);rintro e w' ⟨rfl,⟨nd,rfl⟩⟩;(try exact dd)));(repeat (go_quiet (first|(go_at_call 59;(try simp only [i64_w,i32_w]);(with_reducible refine (ouC _ _).mono ?_);rintro e w' ⟨rfl,⟨nd,rfl⟩⟩;(try exact dd)));try go_wp2_with (first|(go_at_call 59;(try simp only [i64_w,i32_w]);(with_reducible refine (ouC _ _).mono ?_);rintro e w' ⟨rfl,⟨nd,rfl⟩⟩;(try exact dd))))))
       go_ret;exact ⟨by first|rfl|(simp;done),(below_then HB.out HB.out.size (below_then HBx.out HBx.out.size (by repeat (first|(with_reducible first|exact HBy.out|apply below_alloc|apply pw_below_drewN|apply below_drew1)|exact HBy.out))))⟩
     ·have ee1:=beq_eq_false_iff_ne.2 z1;obtain ⟨b5,b6⟩:=c10.resolve_left (fun h=>z1 h.1);rw [b5] at hhm;clear c10 z1 b5
      (go_wp2_with (first|(go_at_call 59;(try simp only [i64_w,i32_w]);(with_reducible refine (ouC _ _).mono ?_);rintro e w' ⟨rfl,⟨nd,rfl⟩⟩;(try exact dd)));(repeat (go_quiet (first|(go_at_call 59;(try simp only [i64_w,i32_w]);(with_reducible refine (ouC _ _).mono ?_);rintro e w' ⟨rfl,⟨nd,rfl⟩⟩;(try exact dd)));try go_wp2_with (first|(go_at_call 59;(try simp only [i64_w,i32_w]);(with_reducible refine (ouC _ _).mono ?_);rintro e w' ⟨rfl,⟨nd,rfl⟩⟩;(try exact dd))))))
      go_ret;exact ⟨by first|rfl|(simp;done),(below_then HB.out HB.out.size (below_then HBx.out HBx.out.size (by repeat (first|(with_reducible first|exact HBy.out|apply below_alloc|apply pw_below_drewN|apply below_drew1)|exact HBy.out))))⟩
    rw [if_neg c10] at H;obtain ⟨ps,hp,H⟩:=Option.bind_eq_some_iff.1 H;obtain ⟨us',hq,H⟩:=Option.bind_eq_some_iff.1 H;have HP:=Aside0.mk hp;have HQ2:=Aside0.mk hq;have H':=Aside0.mk H;clear hp hq H;have b5:=nand2 (fun h=>c10 (Or.inr ⟨h.1,by have:=h.2;revert this;cases ouB (rd_T52 l0 i).f0 <;> simp⟩):¬ (rdOf false hs i=true∧(!ouB (rd_T52 l0 i).f0)=true))
    have z3:¬ ((rd_T52 l0 i).f0=1∧rd ws (rd_T52 l0 i).f2≠(rd_T52 l0 i).f1):=fun h=>c10 (Or.inl h)
    clear c10
    go_upto_region 25 with (fail)
    go_cut [141] (fun v wx=>v = .bool false∧Aside0 (∃ n:Nat,wx=wr.drewN n))
    case first=>as_aux_lemma =>
     by_cases z1:(rd_T52 l0 i).f0=1
     ·have ee1:=beq_iff_eq.2 z1;obtain ⟨aw,e_,hy⟩:=HYW.out z1;cases e_;have c11:=(C9.out z1).1;have c12:=(C9.out z1).2;rw [← L8.out] at c12;have d11:decide (0≤(rd_T52 l0 i).f2)=true:=decide_eq_true c11;have d12:decide ((rd_T52 l0 i).f2 < 8)=true:=decide_eq_true c12;have d13:decide ((rd_T52 l0 i).f2 < ((8:Nat):Int))=true:=decide_eq_true c12;have c13:((rd_T52 l0 i).f2 < 8)=True:=eq_true c12;replace c11:=eq_true c11;replace c12:=eq_true c12;have ee2:=bne_eq_false_iff_eq.2 (show rd ws (rd_T52 l0 i).f2=(rd_T52 l0 i).f1 from Classical.byContradiction fun h=>z3 ⟨z1,h⟩);clear z1 z3
      rcases b5 with b5 | ⟨b5,b6⟩
      all_goals (rw [b5] at hhm;clear b5;(try replace b6:ouB (rd_T52 l0 i).f0=true:=by simpa using b6);(go_wp2_with (first|(go_at_call 59;(try simp only [i64_w,i32_w]);(with_reducible refine (ouC _ _).mono ?_);rintro e w' ⟨rfl,⟨nd,rfl⟩⟩;(try exact dd)));(repeat (go_quiet (first|(go_at_call 59;(try simp only [i64_w,i32_w]);(with_reducible refine (ouC _ _).mono ?_);rintro e w' ⟨rfl,⟨nd,rfl⟩⟩;(try exact dd)));try go_wp2_with (first|(go_at_call 59;(try simp only [i64_w,i32_w]);(with_reducible refine (ouC _ _).mono ?_);rintro e w' ⟨rfl,⟨nd,rfl⟩⟩;(try exact dd))))));go_meet;exact ⟨rfl,⟨⟨_,rfl⟩⟩⟩)
     ·have ee1:=beq_eq_false_iff_ne.2 z1;clear z1 z3
      rcases b5 with b5 | ⟨b5,b6⟩
      all_goals (rw [b5] at hhm;clear b5;(try replace b6:ouB (rd_T52 l0 i).f0=true:=by simpa using b6);(go_wp2_with (first|(go_at_call 59;(try simp only [i64_w,i32_w]);(with_reducible refine (ouC _ _).mono ?_);rintro e w' ⟨rfl,⟨nd,rfl⟩⟩;(try exact dd)));(repeat (go_quiet (first|(go_at_call 59;(try simp only [i64_w,i32_w]);(with_reducible refine (ouC _ _).mono ?_);rintro e w' ⟨rfl,⟨nd,rfl⟩⟩;(try exact dd)));try go_wp2_with (first|(go_at_call 59;(try simp only [i64_w,i32_w]);(with_reducible refine (ouC _ _).mono ?_);rintro e w' ⟨rfl,⟨nd,rfl⟩⟩;(try exact dd))))));go_meet;exact ⟨rfl,⟨⟨_,rfl⟩⟩⟩)
    case rest =>
    clear b5 z3;obtain ⟨rfl,HN⟩:=hcut;obtain ⟨nd_,hnd⟩:=HN.out;subst hnd
    have hU0:0 < us.length:=by have:=HLU.out;have:=HL0.out;have:=C56.out;omega
    obtain ⟨gu,cu2,eu,GU,GUL,_⟩:=Kd.R_form HO.out hU0
    obtain ⟨rfl,rfl⟩:Au=some ⟨gu,0,none⟩∧cu=cu2:=by injection eu;exact ⟨by assumption,by assumption⟩
    have GU_:=Aside0.mk GU;have GUL_:=Aside0.mk (show gu < (wr.drewN nd_).heap.size from GUL);clear eu GU GUL hU0 HN;go_wp2_with (first|(go_at_call 27;(try simp only [i64_w,i32_w]);(with_reducible refine (spec_Parts.calls k1 (rd_T52 l0 i).f0 (rd_T52 l0 i).f1 (rd_T52 l0 i).f2 (rd_T52 l0 i).f3 (rd_T52 l0 i).f4 (rd_T52 l0 i).f5 ps _ HP.out).mono ?_);rintro e w8 ⟨v11,rfl,ho,hb⟩;have HBz:=Aside0.mk hb;have HPS:=Aside0.mk ho;clear ho hb));have HO2:=Aside0.mk (Kd.R_below (Kd.R_drewN HO.out _) HBz.out);have HB2:=Aside0.mk (below_then (pw_below_drewN HBy.out _) (pw_below_drewN HBy.out _).size HBz.out);have HPS2:=Aside0.mk (Kd.R_lower (Kd.R_mono (Kd.R_bound HPS.out) (ok':=fun k=>k≠gu) (fun k hk=>by have:=hk.2.1;have:=GUL_.out;omega)) (pw_below_drewN HBy.out nd_).size);obtain ⟨Ap,cp,ep⟩:=Kd.R_slice HPS2.out;subst ep;clear HPS HBz HO HBy him hhm hx0 hx1 hx2 hx3 hx4 hx5 d5 d6 d7 d8 c5 c6 c7 c8
    go_loopg [12] k1 (fun kq v12 wr=>∃ (j:Int) (us2:List Int),v12 = .int .i64 j∧Aside0 (snP kq ps j us2=some us')∧Aside0 (kq≤k1)∧Aside0 (us2.length=us0.length)∧Aside0 (Kd.R (Kd.int .i64) 3 wr wb.heap.size (fun _=>True) (.slice (some ⟨gu,0,none⟩) us0.length cu) us2)∧Aside0 (Kd.R (Kd.int .i64) 3 wr wb.heap.size (fun k=>k≠gu) (.slice Ap ps.length cp) ps)∧Aside0 (Below wb.heap.size wb wr))
    case atStart=>exact ⟨0,us,rfl,HQ2,⟨Nat.le_refl _⟩,HLU,HO2,HPS2,HB2⟩
    case round =>
     clear HQ2 HO2 HPS2 HB2 HLU;obtain ⟨j,us2,rfl,HA,HK2,HLU,HO,HPS,HBy⟩:=hrel
     cases gk with
     | zero=>exact absurd HA.out (by simp [snP])
     | succ k2 =>
     have H:=HA.out;clear HA;simp only [snP] at H
     by_cases c5:j < (ps.length:Int)
     ·rw [if_pos c5] at H
      by_cases c6:0≤j∧(0≤rd ps j∧rd ps j < (us2.length:Int))
      case neg=>rw [if_neg c6] at H;cases H
      rw [if_pos c6] at H;have H2:=Aside0.mk H;clear H;obtain ⟨c6,c7,c8⟩:=c6;rw [HLU.out] at c8;obtain ⟨ap,e_,hxp⟩:=Kd.at_int (Kd.R_reads' HPS.out).2.2 j c6 c5;cases e_;obtain ⟨hy,hyf⟩:=Kd.R_celln (0:Int) HO.out _ c7 c8
      change wr.cell? _=some (.int .i64 (rd us2 (rd ps j))) at hy
      have d5:decide (j < (ps.length:Int))=true:=decide_eq_true c5;have d6:decide (0≤j)=true:=decide_eq_true c6;have d7:decide (0≤rd ps j)=true:=decide_eq_true c7;have d8:decide (rd ps j < (us0.length:Int))=true:=decide_eq_true c8;replace c5:=eq_true c5;replace c6:=eq_true c6;replace c7:=eq_true c7;replace c8:=eq_true c8
      go_upto_region 31 with (fail)
      refine start_ (n:=15) (S:=fun w'=>∀ p,w'.cell? p=wr.cell? p) (ds:=[14]) (tF 0 15) (by kernel_rfl) rfl rfl (fun _=>rfl) (fun hHeld=>?_)
      repeat (first|(refine pureQ (v:=undef) (a':=?_) rfl rfl (by kernel_rfl) (fun _ _ _ h=>h) (Or.inr ⟨by rfl,rfl⟩) ?_ ?_;rotate_left;(simp only [Act.put,List.replicate,List.cons_append,List.nil_append,List.append_nil,List.setIfInBounds_toArray,List.set_cons_zero,List.set_cons_succ,i64_w,i32_w];rfl))|(refine pureQ (v:=?_) (a':=?_) rfl rfl (by kernel_rfl) (fun _ _ _ h=>h) (Or.inl ⟨by rfl,?_⟩) ?_ ?_;rotate_left;(intro w';go_simp;with_reducible rfl);rotate_left;(simp only [Act.put,List.replicate,List.cons_append,List.nil_append,List.append_nil,List.setIfInBounds_toArray,List.set_cons_zero,List.set_cons_succ,i64_w,i32_w];rfl))|(refine takeQ (v:=?_) (a':=?_) rfl rfl (by kernel_rfl) (fun _ _ _ h=>h) (Or.inl ⟨by rfl,?_⟩) hHeld ?_ ?_;rotate_left;(intro w' s0;go_simp;with_reducible rfl);rotate_left;(simp only [Act.put,List.replicate,List.cons_append,List.nil_append,List.append_nil,List.setIfInBounds_toArray,List.set_cons_zero,List.set_cons_succ,i64_w,i32_w];rfl)))
      refine lastQ (w1:=?_) rfl rfl (by kernel_rfl) (by decide) (by rfl) ?_ (by kernel_rfl) ?_;rotate_left;(go_simp;rfl);go_wp2;go_roundg k2
      case measure=>have:=HK2.out;omega
      case rel=>exact ⟨wrap64 (j + 1),_,rfl,H2,⟨by have:=HK2.out;omega⟩,⟨by rw [List.length_set];exact HLU.out⟩,⟨(Kd.R_putg (Kd.R_drew HO.out) (rd ps j) _).1⟩,⟨Kd.R_far (Kd.R_drew HPS.out) (fun _ h=>h) _⟩,⟨Below.setCell (below_drew HBy.out) GU_.out _⟩⟩
     ·rw [if_neg c5] at H;have d5:decide (j < (ps.length:Int))=false:=decide_eq_false c5;obtain rfl:=os H;clear H c5;go_wp2;go_roundg k1
      case measure=>have:=HK1.out;omega
      case rel=>exact ⟨wrap64 (i + 1),_,rfl,H',⟨by have:=HK1.out;omega⟩,HLU,HO,HBy⟩
   ·rw [if_neg c5] at H;have d5:decide (i < (l0.length:Int))=false:=decide_eq_false c5;obtain rfl:=os H;clear H c5;go_wp2;go_meet;exact ⟨us,⟨rfl⟩,HLU,HBy,HO⟩
 case rest =>
 clear HO HBy HU;obtain ⟨us,HE,HLU,HBy,HO⟩:=hcut;obtain rfl:=HE.out;have HA0:=Aside0.mk (show snH k l0 is hs us 0=some r from H0.out);obtain ⟨wz,hwz⟩:∃ W:World,W=wc:=⟨_,rfl⟩;rw [← hwz] at HBy HO ⊢;clear hwz HE H0;have CI2:=Aside0.mk (Kd.C_below CI.out HBy.out);have CH2:=Aside0.mk (Kd.C_below CH.out HBy.out);have CU:=Aside0.mk (Kd.R_reads' HO.out).2.2;clear CI CH;go_wp2_with fail
 go_loopg [13] k (fun kq v13 wr=>∃ (i:Int),v13 = .int .i64 i∧Aside0 (snH kq l0 is hs us i=some r)∧Aside0 (kq≤k)∧Aside0 (Below wz.heap.size wz wr))
 case atStart=>exact ⟨0,rfl,HA0,⟨Nat.le_refl _⟩,⟨Below.refl _ _⟩⟩
 case round =>
  clear HA0;obtain ⟨i,rfl,HA,HK1,HBq⟩:=hrel
  cases gk with
  | zero=>exact absurd HA.out (by simp [snH])
  | succ k1 =>
  have H:=HA.out;clear HA;simp only [snH] at H
  by_cases c5:i < (l0.length:Int)
  ·rw [if_pos c5] at H
   by_cases c6:0≤i∧(i < (is.length:Int)∧(i < (hs.length:Int)∧i < (us.length:Int)))
   case neg=>rw [if_neg c6] at H;cases H
   rw [if_pos c6] at H;obtain ⟨c6,c7,c8,c9⟩:=c6;obtain ⟨ai,e_,him⟩:=Kd.at_bool CI2.out i c6 c7;cases e_;obtain ⟨ah,e_,hhm⟩:=Kd.at_bool CH2.out i c6 c8;cases e_;obtain ⟨au,e_,hum⟩:=Kd.at_int CU.out i c6 c9;cases e_;replace him:=ct_ HBq him;replace hhm:=ct_ HBq hhm;replace hum:=ct_ HBq hum;rw [HLU.out] at c9;have d5:decide (i < (l0.length:Int))=true:=decide_eq_true c5;have d6:decide (0≤i)=true:=decide_eq_true c6;have d7:decide (i < (is.length:Int))=true:=decide_eq_true c7;have d8:decide (i < (hs.length:Int))=true:=decide_eq_true c8;have d9:decide (i < (us0.length:Int))=true:=decide_eq_true c9;replace c5:=eq_true c5;replace c6:=eq_true c6;replace c7:=eq_true c7;replace c8:=eq_true c8;replace c9:=eq_true c9
   by_cases c10:rdOf false is i=true∧(rdOf false hs i=true∧1 < rd us i)
   ·rw [if_pos c10] at H;obtain ⟨b1,b2,b3⟩:=c10;rw [b1] at him;rw [b2] at hhm;have b4:=decide_eq_true b3;obtain rfl:=os H;clear H b1 b2 b3;go_wp2;go_ret;exact ⟨by first|rfl|(simp;done),(below_then HB.out HB.out.size (below_then HBx.out HBx.out.size (below_then HBy.out HBy.out.size (by repeat (first|(with_reducible first|exact HBq.out|apply below_alloc|apply pw_below_drewN|apply below_drew1)|exact HBq.out)))))⟩
   ·rw [if_neg c10] at H;have H':=Aside0.mk H
    have b1:rdOf false is i=false∨(rdOf false is i=true∧(rdOf false hs i=false∨(rdOf false hs i=true∧decide (1 < rd us i)=false))):=by
     rcases nand2 (fun h=>c10 ⟨h.1,by have:=h.2;rw [Bool.and_eq_true,decide_eq_true_eq] at this;exact this⟩:¬ (rdOf false is i=true∧(rdOf false hs i && decide (1 < rd us i))=true)) with h | ⟨h,h2⟩
     ·exact Or.inl h
     ·refine Or.inr ⟨h,?_⟩
      revert h2
      cases rdOf false hs i <;> simp
    clear H c10
    rcases b1 with b1 | ⟨b1,b2 | ⟨b2,b3⟩⟩
    all_goals (rw [b1] at him;(try rw [b2] at hhm);clear b1;(try clear b2);go_wp2;go_roundg k1;(case measure=>have:=HK1.out;omega);(case rel=>exact ⟨wrap64 (i + 1),rfl,H',⟨by have:=HK1.out;omega⟩,⟨(by repeat (first|(with_reducible first|exact HBq.out|apply below_alloc|apply pw_below_drewN|apply below_drew1)|exact HBq.out))⟩⟩))
  ·rw [if_neg c5] at H;have d5:decide (i < (l0.length:Int))=false:=decide_eq_false c5;obtain rfl:=os H;clear H c5;go_wp2;go_ret;exact ⟨by first|rfl|(simp;done),(below_then HB.out HB.out.size (below_then HBx.out HBx.out.size (below_then HBy.out HBy.out.size (by repeat (first|(with_reducible first|exact HBq.out|apply below_alloc|apply pw_below_drewN|apply below_drew1)|exact HBq.out)))))⟩
def spec_l01Byte.f (s0_0:List Int) (s0_1:Int) (s0_2:Int):Option (Int × Int × Int):=if s0_1 < (s0_0.length:Int) then (if 0≤s0_1 then (some (Go.bits .and .i64 (wrap64 ((Go.bits .and .i64 (Go.bits .xor .i64 ((wrap64 ((wrap64 (s0_2 * 6364136223846793005)) + 1442695040888963407)) / 8589934592) ((wrap64 ((wrap64 (s0_2 * 6364136223846793005)) + 1442695040888963407)) / 35184372088832)) 255) + (wrap64 (rd s0_0 s0_1)))) 255,wrap64 (s0_1 + 1),wrap64 ((wrap64 (s0_2 * 6364136223846793005)) + 1442695040888963407))) else (none)) else (some (Go.bits .and .i64 (Go.bits .xor .i64 ((wrap64 ((wrap64 (s0_2 * 6364136223846793005)) + 1442695040888963407)) / 8589934592) ((wrap64 ((wrap64 (s0_2 * 6364136223846793005)) + 1442695040888963407)) / 35184372088832)) 255,s0_1,wrap64 ((wrap64 (s0_2 * 6364136223846793005)) + 1442695040888963407)))
theorem spec_l01Byte.calls (g:Nat) (s0_0:List Int) (s0_1:Int) (s0_2:Int) (r1:Int) (r2:Int) (r3:Int) (w0 w:World) (hI:IsS75 w0 w g s0_0 s0_1 s0_2) (hB:Below w0.heap.size w0 w) (h:spec_l01Byte.f s0_0 s0_1 s0_2=some (r1,r2,r3)) :
  Calls Tryz.prog 99 #[.pointer (some ⟨g,0,none⟩)] w fun e w'=>e = .returned (.int .i64 r1)∧IsS75 w0 w' g s0_0 r2 r3∧Below w0.heap.size w0 w'∧KeepBut w w' g none:=by
 have HI0:=Aside0.mk hI;have HK:=Aside0.mk (KeepBut.refl w g none);have HL:=Aside0.mk hB.size;clear hI;have HW0:=Aside0.mk hB.size;have HB:=Aside0.mk hB;clear hB;have H:(if s0_1 < (s0_0.length:Int) then (if 0≤s0_1 then (some (Go.bits .and .i64 (wrap64 ((Go.bits .and .i64 (Go.bits .xor .i64 ((wrap64 ((wrap64 (s0_2 * 6364136223846793005)) + 1442695040888963407)) / 8589934592) ((wrap64 ((wrap64 (s0_2 * 6364136223846793005)) + 1442695040888963407)) / 35184372088832)) 255) + (wrap64 (rd s0_0 s0_1)))) 255,wrap64 (s0_1 + 1),wrap64 ((wrap64 (s0_2 * 6364136223846793005)) + 1442695040888963407))) else (none)) else (some (Go.bits .and .i64 (Go.bits .xor .i64 ((wrap64 ((wrap64 (s0_2 * 6364136223846793005)) + 1442695040888963407)) / 8589934592) ((wrap64 ((wrap64 (s0_2 * 6364136223846793005)) + 1442695040888963407)) / 35184372088832)) 255,s0_1,wrap64 ((wrap64 (s0_2 * 6364136223846793005)) + 1442695040888963407))))=some (r1,r2,r3):=h;clear h
 by_cases c2:s0_1 < (s0_0.length:Int)
 ·rw [if_pos c2] at H;have c2b0:decide (s0_1 < (s0_0.length:Int))=true:=decide_eq_true c2;clear c2
  by_cases c3:0≤s0_1
  ·rw [if_pos c3] at H;have c3b0:decide (0≤s0_1)=true:=decide_eq_true c3;clear c3;simp only [Option.some.injEq,Prod.mk.injEq] at H;obtain ⟨rfl,rfl,rfl⟩:=H;obtain ⟨ASz4_0,cSz4_0,HGz4,hgz4,HSz4_0⟩:=HI0.out;have hcz4_0:=cellS75_0 HGz4;have hcz4_1:=cellS75_1 HGz4;have hcz4_2:=cellS75_2 HGz4;have hfz4_1:=blk_frozen HGz4 1;have hfz4_2:=blk_frozen HGz4 2;clear HGz4 hgz4;have p101:0≤(s0_1:Int):=od;have q101:s0_1 < (s0_0.length:Int):=od;obtain ⟨ad101,e101,hx101_0⟩:=Kd.at_int HSz4_0 s0_1 p101 q101;cases e101;have hn101_0:ad101.block≠g:=Nat.ne_of_lt (Nat.lt_of_lt_of_le (by have:=World.block_lt_of_cell? _ _ hx101_0;first|rwa [add_block] at this|exact this) (IsS75.ge HI0.out));replace hx101_0:=pw_cell_below HB.out hx101_0;replace hx101_0:=(cell_far (p:=⟨g,2,none⟩) (by first|(rw [add_block];exact hn101_0)|(show (Addr.add _ _).block≠_;rw [add_block];exact hn101_0)|exact hn101_0) (.int .i64 (wrap64 ((wrap64 (s0_2 * 6364136223846793005)) + 1442695040888963407)))).trans hx101_0
   (try have hy101_0:=fun (n_:Nat)=>(show (((w.drewN n_).setCell ⟨g,2,none⟩ (.int .i64 (wrap64 ((wrap64 (s0_2 * 6364136223846793005)) + 1442695040888963407))))).cell? _=some _ from hx101_0))
   clear hn101_0;replace p101:=eq_true p101;replace q101:=eq_true q101
   go_enter Tryz.func99,Tryz.ntmps99
   go_wp2
   repeat (go_quiet (fail);try go_wp2)
   go_ret;exact ⟨er,ti75 HI0,tj75 HB HI0,tp HK⟩
  ·rw [if_neg c3] at H;exact absurd H (by simp)
 ·rw [if_neg c2] at H;have c2b0:decide (s0_1 < (s0_0.length:Int))=false:=decide_eq_false c2;clear c2;simp only [Option.some.injEq,Prod.mk.injEq] at H;obtain ⟨rfl,rfl,rfl⟩:=H;obtain ⟨ASz5_0,cSz5_0,HGz5,hgz5,HSz5_0⟩:=HI0.out;have hcz5_0:=cellS75_0 HGz5;have hcz5_1:=cellS75_1 HGz5;have hcz5_2:=cellS75_2 HGz5;have hfz5_1:=blk_frozen HGz5 1;have hfz5_2:=blk_frozen HGz5 2;clear HGz5 hgz5
  go_enter Tryz.func99,Tryz.ntmps99
  go_wp2
  repeat (go_quiet (fail);try go_wp2)
  go_ret;exact ⟨er,ti75 HI0,tj75 HB HI0,tp HK⟩
def spec_l01Below.f (s0_0:List Int) (s0_1:Int) (s0_2:Int) (a1:Int):Option (Int × Int × Int):=if a1≤0 then (some (0,s0_1,s0_2)) else (if a1≤256 then ((spec_l01Byte.f s0_0 s0_1 s0_2).bind fun bt101=>(if a1=0 then (none) else (some (Int.tmod bt101.1 a1,bt101.2.1,bt101.2.2)))) else ((spec_l01Byte.f s0_0 s0_1 s0_2).bind fun bt104=>((spec_l01Byte.f s0_0 bt104.2.1 bt104.2.2).bind fun bt107=>((spec_l01Byte.f s0_0 bt107.2.1 bt107.2.2).bind fun bt110=>((spec_l01Byte.f s0_0 bt110.2.1 bt110.2.2).bind fun bt113=>(if a1=0 then (none) else (some (Int.tmod (wrap64 ((wrap64 ((wrap64 ((wrap64 (bt104.1 * 16777216)) + (wrap64 (bt107.1 * 65536)))) + (wrap64 (bt110.1 * 256)))) + bt113.1)) a1,bt113.2.1,bt113.2.2))))))))
theorem spec_l01Below.calls (g:Nat) (s0_0:List Int) (s0_1:Int) (s0_2:Int) (a1:Int) (r1:Int) (r2:Int) (r3:Int) (w0 w:World) (hI:IsS75 w0 w g s0_0 s0_1 s0_2) (hB:Below w0.heap.size w0 w) (h:spec_l01Below.f s0_0 s0_1 s0_2 a1=some (r1,r2,r3)) :
  Calls Tryz.prog 81 #[.pointer (some ⟨g,0,none⟩),.int .i64 a1] w fun e w'=>e = .returned (.int .i64 r1)∧IsS75 w0 w' g s0_0 r2 r3∧Below w0.heap.size w0 w'∧KeepBut w w' g none:=by
 have HI0:=Aside0.mk hI;have HK:=Aside0.mk (KeepBut.refl w g none);have HL:=Aside0.mk hB.size;clear hI;have HW0:=Aside0.mk hB.size;have HB:=Aside0.mk hB;clear hB;have H:(if a1≤0 then (some (0,s0_1,s0_2)) else (if a1≤256 then ((spec_l01Byte.f s0_0 s0_1 s0_2).bind fun bt101=>(if a1=0 then (none) else (some (Int.tmod bt101.1 a1,bt101.2.1,bt101.2.2)))) else ((spec_l01Byte.f s0_0 s0_1 s0_2).bind fun bt104=>((spec_l01Byte.f s0_0 bt104.2.1 bt104.2.2).bind fun bt107=>((spec_l01Byte.f s0_0 bt107.2.1 bt107.2.2).bind fun bt110=>((spec_l01Byte.f s0_0 bt110.2.1 bt110.2.2).bind fun bt113=>(if a1=0 then (none) else (some (Int.tmod (wrap64 ((wrap64 ((wrap64 ((wrap64 (bt104.1 * 16777216)) + (wrap64 (bt107.1 * 65536)))) + (wrap64 (bt110.1 * 256)))) + bt113.1)) a1,bt113.2.1,bt113.2.2)))))))))=some (r1,r2,r3):=h;clear h
 by_cases c3:a1≤0
 ·rw [if_pos c3] at H;have c3b0:decide (a1≤0)=true:=decide_eq_true c3;clear c3;simp only [Option.some.injEq,Prod.mk.injEq] at H;obtain ⟨rfl,rfl,rfl⟩:=H
  go_enter Tryz.func81,Tryz.ntmps81
  go_wp2;go_ret;exact ⟨er,ti75 HI0,tj75 HB HI0,tp HK⟩
 ·rw [if_neg c3] at H;have c3b0:decide (a1≤0)=false:=decide_eq_false c3;clear c3
  by_cases c4:a1≤256
  ·rw [if_pos c4] at H;have c4b0:decide (a1≤256)=true:=decide_eq_true c4;clear c4;replace H:=ob H;obtain ⟨⟨A0,A1,A2⟩,A50,H⟩:=H;replace H:(if a1=0 then (none) else (some (Int.tmod A0 a1,A1,A2)))=some (r1,r2,r3):=H;have A5:=Aside0.mk A50;clear A50
   by_cases c6:a1=0
   ·rw [if_pos c6] at H;exact absurd H (by simp)
   ·rw [if_neg c6] at H;have c6b0:(a1 == 0)=false:=beq_eq_false_iff_ne.mpr c6;have c6b1:(a1 != 0)=true:=bne_iff_ne.mpr c6;simp only [Option.some.injEq,Prod.mk.injEq] at H;obtain ⟨rfl,rfl,rfl⟩:=H
    go_enter Tryz.func81,Tryz.ntmps81
    go_wp2_with (first|((with_reducible refine gate_callee (f:=99) rfl ?_);refine goesL_ (some 14) rfl rfl Tryz.func99 (by kernel_rfl) rfl #[.pointer (some ⟨g,0,none⟩)] rfl ml ?_;(with_reducible refine (spec_l01Byte.calls g s0_0 s0_1 s0_2 A0 A1 A2 w0 _ ?side1 ?side2 A5.out).mono ?_);(case side1=>exact ti75 HI0);(case side2=>exact tj75 HB HI0);rintro e w7 ⟨rfl,hi,hb,hk⟩;refine ⟨_,rfl,?_⟩;replace HK:=Aside0.mk (KeepBut.trans (tp HK) hk (.inl rfl));replace HB:=Aside0.mk (hb);replace HI0:=Aside0.mk (hi);(try clear hb);(try clear hb2);(try clear hk);(try clear hi)));go_ret;exact ⟨er,ti75 HI0,tj75 HB HI0,tp HK⟩
  ·rw [if_neg c4] at H;have c4b0:decide (a1≤256)=false:=decide_eq_false c4;clear c4;replace H:=ob H;obtain ⟨⟨t104,A3,A4⟩,A80,H⟩:=H
   try dsimp only at H
   have A8:=Aside0.mk A80;clear A80;replace H:=ob H;obtain ⟨⟨t107,A6,A7⟩,A90,H⟩:=H
   try dsimp only at H
   have A9:=Aside0.mk A90;clear A90;replace H:=ob H;obtain ⟨⟨t110,Aa,Ab⟩,A100,H⟩:=H
   try dsimp only at H
   have A10:=Aside0.mk A100;clear A100;replace H:=ob H;obtain ⟨⟨t113,t114,t115⟩,A110,H⟩:=H
   try dsimp only at H
   have A11:=Aside0.mk A110;clear A110
   by_cases c12:a1=0
   ·rw [if_pos c12] at H;exact absurd H (by simp)
   ·rw [if_neg c12] at H;have c12b0:(a1 == 0)=false:=beq_eq_false_iff_ne.mpr c12;have c12b1:(a1 != 0)=true:=bne_iff_ne.mpr c12;simp only [Option.some.injEq,Prod.mk.injEq] at H;obtain ⟨rfl,rfl,rfl⟩:=H
    go_enter Tryz.func81,Tryz.ntmps81
    go_wp2_with (first|((with_reducible refine gate_callee (f:=99) rfl ?_);refine goesL_ (some 18) rfl rfl Tryz.func99 (by kernel_rfl) rfl #[.pointer (some ⟨g,0,none⟩)] rfl ml ?_;(with_reducible refine (spec_l01Byte.calls g s0_0 s0_1 s0_2 t104 A3 A4 w0 _ ?side1 ?side2 A8.out).mono ?_);(case side1=>exact ti75 HI0);(case side2=>exact tj75 HB HI0);rintro e w13 ⟨rfl,hi,hb,hk⟩;refine ⟨_,rfl,?_⟩;replace HK:=Aside0.mk (KeepBut.trans (tp HK) hk (.inl rfl));replace HB:=Aside0.mk (hb);replace HI0:=Aside0.mk (hi);(try clear hb);(try clear hb2);(try clear hk);(try clear hi))|((with_reducible refine gate_callee (f:=99) rfl ?_);refine goesL_ (some 20) rfl rfl Tryz.func99 (by kernel_rfl) rfl #[.pointer (some ⟨g,0,none⟩)] rfl ml ?_;(with_reducible refine (spec_l01Byte.calls g s0_0 A3 A4 t107 A6 A7 w0 _ ?side1 ?side2 A9.out).mono ?_);(case side1=>exact ti75 HI0);(case side2=>exact tj75 HB HI0);rintro e w14 ⟨rfl,hi,hb,hk⟩;refine ⟨_,rfl,?_⟩;replace HK:=Aside0.mk (KeepBut.trans (tp HK) hk (.inl rfl));replace HB:=Aside0.mk (hb);replace HI0:=Aside0.mk (hi);(try clear hb);(try clear hb2);(try clear hk);(try clear hi))|((with_reducible refine gate_callee (f:=99) rfl ?_);refine goesL_ (some 22) rfl rfl Tryz.func99 (by kernel_rfl) rfl #[.pointer (some ⟨g,0,none⟩)] rfl ml ?_;(with_reducible refine (spec_l01Byte.calls g s0_0 A6 A7 t110 Aa Ab w0 _ ?side1 ?side2 A10.out).mono ?_);(case side1=>exact ti75 HI0);(case side2=>exact tj75 HB HI0);rintro e w15 ⟨rfl,hi,hb,hk⟩;refine ⟨_,rfl,?_⟩;replace HK:=Aside0.mk (KeepBut.trans (tp HK) hk (.inl rfl));replace HB:=Aside0.mk (hb);replace HI0:=Aside0.mk (hi);(try clear hb);(try clear hb2);(try clear hk);(try clear hi))|((with_reducible refine gate_callee (f:=99) rfl ?_);refine goesL_ (some 24) rfl rfl Tryz.func99 (by kernel_rfl) rfl #[.pointer (some ⟨g,0,none⟩)] rfl ml ?_;(with_reducible refine (spec_l01Byte.calls g s0_0 Aa Ab t113 t114 t115 w0 _ ?side1 ?side2 A11.out).mono ?_);(case side1=>exact ti75 HI0);(case side2=>exact tj75 HB HI0);rintro e w16 ⟨rfl,hi,hb,hk⟩;refine ⟨_,rfl,?_⟩;replace HK:=Aside0.mk (KeepBut.trans (tp HK) hk (.inl rfl));replace HB:=Aside0.mk (hb);replace HI0:=Aside0.mk (hi);(try clear hb);(try clear hb2);(try clear hk);(try clear hi)));go_ret;exact ⟨er,ti75 HI0,tj75 HB HI0,tp HK⟩
def spec_l01Once.f (s0_0:List Int) (s0_1:Int) (s0_2:Int) (a1:Int):Option (Bool × Int × Int):=(spec_l01Below.f s0_0 s0_1 s0_2 a1).bind fun bt101=>(some ((bt101.1 == 0),bt101.2.1,bt101.2.2))
theorem spec_l01Once.calls (g:Nat) (s0_0:List Int) (s0_1:Int) (s0_2:Int) (a1:Int) (r1:Bool) (r2:Int) (r3:Int) (w0 w:World) (hI:IsS75 w0 w g s0_0 s0_1 s0_2) (hB:Below w0.heap.size w0 w) (h:spec_l01Once.f s0_0 s0_1 s0_2 a1=some (r1,r2,r3)) :
  Calls Tryz.prog 80 #[.pointer (some ⟨g,0,none⟩),.int .i64 a1] w fun e w'=>e = .returned (.bool r1)∧IsS75 w0 w' g s0_0 r2 r3∧Below w0.heap.size w0 w'∧KeepBut w w' g none:=by
 have HI0:=Aside0.mk hI;have HK:=Aside0.mk (KeepBut.refl w g none);have HL:=Aside0.mk hB.size;clear hI;have HW0:=Aside0.mk hB.size;have HB:=Aside0.mk hB;clear hB;have H:((spec_l01Below.f s0_0 s0_1 s0_2 a1).bind fun bt101=>(some ((bt101.1 == 0),bt101.2.1,bt101.2.2)))=some (r1,r2,r3):=h;clear h;replace H:=ob H;obtain ⟨⟨A0,A1,A2⟩,A30,H⟩:=H;replace H:(some ((A0 == 0),A1,A2))=some (r1,r2,r3):=H;have A3:=Aside0.mk A30;clear A30;simp only [Option.some.injEq,Prod.mk.injEq] at H;obtain ⟨rfl,rfl,rfl⟩:=H
 go_enter Tryz.func80,Tryz.ntmps80
 go_wp2_with (first|((with_reducible refine gate_callee (f:=81) rfl ?_);refine goesL_ (some 7) rfl rfl Tryz.func81 (by kernel_rfl) rfl #[.pointer (some ⟨g,0,none⟩),.int .i64 a1] rfl ml ?_;(with_reducible refine (spec_l01Below.calls g s0_0 s0_1 s0_2 a1 A0 A1 A2 w0 _ ?side1 ?side2 A3.out).mono ?_);(case side1=>exact ti75 HI0);(case side2=>exact tj75 HB HI0);rintro e w4 ⟨rfl,hi,hb,hk⟩;refine ⟨_,rfl,?_⟩;replace HK:=Aside0.mk (KeepBut.trans (tp HK) hk (.inl rfl));replace HB:=Aside0.mk (hb);replace HI0:=Aside0.mk (hi);(try clear hb);(try clear hb2);(try clear hk);(try clear hi)));go_ret;exact ⟨er,ti75 HI0,tj75 HB HI0,tp HK⟩
def spec_l02Push.f (l0:List (S52)) (a1_0:Int) (a1_1:Int) (a1_2:Int) (a1_3:Int) (a1_4:Int) (a1_5:Int):Option ((List (S52)) × Int):=if l0.length < 2932031007402 then (some ((l0 ++ [(⟨a1_0,a1_1,a1_2,a1_3,a1_4,a1_5⟩:S52)]),(l0.length:Int))) else (none)
theorem spec_l02Push.calls (P0_:Nat→Prop) (u9000_:Value) (l0:List (S52)) (a1_0:Int) (a1_1:Int) (a1_2:Int) (a1_3:Int) (a1_4:Int) (a1_5:Int) (r1:List (S52)) (r2:Int) (w0 w:World) (hB:Below w0.heap.size w0 w) (ho0:Kd.R k52 52 w w0.heap.size P0_ u9000_ l0) (h:spec_l02Push.f l0 a1_0 a1_1 a1_2 a1_3 a1_4 a1_5=some (r1,r2)) :
  Calls Tryz.prog 82 #[u9000_,.agg #[.int .i64 a1_0,.int .i64 a1_1,.int .i64 a1_2,.int .i64 a1_3,.int .i64 a1_4,.int .i64 a1_5]] w fun e w'=>∃ v0_:Value,e = .returned (.tuple #[v0_,.int .i64 r2])∧Kd.R k52 52 w' w0.heap.size (fun k_=>(P0_ k_∨w.heap.size≤k_)) v0_ r1∧Below w0.heap.size w0 w'∧Kept w w' (fun k_=>P0_ k_):=by
 unfold spec_l02Push.f at h
 by_cases c3:l0.length < 2932031007402
 case neg=>rw [if_neg c3] at h;cases h
 rw [if_pos c3] at h;have LM:=Aside0.mk c3;clear c3
 obtain ⟨rfl,rfl⟩:l0 ++ [(⟨a1_0,a1_1,a1_2,a1_3,a1_4,a1_5⟩:S52)]=r1∧(l0.length:Int)=r2:=by injection h with h;injection h with h1 h2;exact ⟨h1,h2⟩
 have HO0:=Aside0.mk (show Kd.R k52 52 w w0.heap.size (fun k_=>(P0_ k_∨w.heap.size≤k_)) u9000_ l0 from Kd.R_mono ho0 (fun k_ hk=>(.inl hk)));have HB:=Aside0.mk hB;clear hB h ho0
 go_enter Tryz.func82,Tryz.ntmps82
 go_wp2_with (first|((with_reducible refine gate_dst (N:=3) rfl ?_);refine bx (N:=3) (cs:=#[.int .i64 a1_0,.int .i64 a1_1,.int .i64 a1_2,.int .i64 a1_3,.int .i64 a1_4,.int .i64 a1_5]) (t:=52) ?_;intro gb hg w4 hbox hb;have HO1:=Aside0.mk (Kd.R_below (Kd.R_elderB HO0.out gb (Nat.le_of_eq hg.symm)) hb);have HK1:=Aside0.mk (Kept.below (Kept.refl w (fun k_=>P0_ k_)) hb);have HB1:=Aside0.mk (below_step HB.out hb);have BK:=Aside0.mk hbox;clear hb hbox hg;obtain ⟨hz0,hz1,hz2,hz3,hz4,hz5⟩:=cc6 BK;have hzf:=ff_ BK;obtain ⟨Ao,co,eo⟩:=Kd.R_slice HO1.out;subst eo)|((with_reducible refine gate_builtin (b := .append) (xs:=#[.tmp 6,.tmp 8]) rfl ?_);at_builtin;refine Kd.R_append k52 (w0:=w0) w0.heap.size rfl (.tmp 6) (.tmp 8) 24 52 (.agg #[(.int .i64 0),(.int .i64 0),(.int .i64 0),(.int .i64 0),(.int .i64 0),(.int .i64 0)]) 48 rfl Tryz.underlying24 info52 rfl (by decide) (by omega) _ l0 (⟨a1_0,a1_1,a1_2,a1_3,a1_4,a1_5⟩:S52) [.int .i64 a1_0,.int .i64 a1_1,.int .i64 a1_2,.int .i64 a1_3,.int .i64 a1_4,.int .i64 a1_5] (fun k_=>(P0_ k_∨w.heap.size≤k_)∧k_≠gb) (fun _=>False) rfl rfl ?aP (fun _ hk=>hk.elim) ?aF ?aO ?aB ?aS ?aL ?_;(case aP=>exact k52_mkM _ _ _ (⟨a1_0,a1_1,a1_2,a1_3,a1_4,a1_5⟩:S52));(case aB=>exact (by repeat (first|(with_reducible first|exact HB1.out|apply below_alloc|apply pw_below_drewN|apply below_drew1)|exact HB1.out)));(case aF=>exact (fun k_ hk=>⟨(.inr (Nat.le_trans HK1.out.1 hk)),Kd.freshB (g:=gb) BK.out k_ hk⟩));(case aO=>exact (ra HO1));(case aS=>exact (below_size (by repeat (first|(with_reducible first|exact HB1.out|apply below_alloc|apply pw_below_drewN|apply below_drew1)|exact HB1.out))));(case aL=>have:=LM.out;omega);intro v103 w6 ho hb hg hat;have HB2:=Aside0.mk hb;have HK2:=Aside0.mk (Kept.of_grown (S:=(fun k_=>P0_ k_)) hg HK1.out (fun k_ e_=>(HO1.out.1 k_ e_).1));have HO2:=Aside0.mk ho;clear ho hb hg hat));go_ret2;exact ⟨_,by first|rfl|(simp;done),Kd.R_mono HO2.out (fun _ hk=>hk.1),HB2.out,Kept.mono HK2.out (fun k hk=>by first|exact hk|(rcases hk with h|h;exact h))⟩
mutual
def spec_l02Deep.l0:Nat→List (S52)→List (S52)→Int→Int→List Int→Int→List Int→Int→Int→Option ((List (S52)) × Int × Int × Int)
 | 0,_,_,_,_,_,_,_,_,_=>none
 | k + 1,x1,x2,x3,x4,x12,x13,x1000,x1001,x1002=>if x13 < (x2.length:Int) then (if 0≤x13 then (if ((rd_T52 x2 x13).f1)=x3 then (if x12.length < 17592186044416 then (spec_l02Deep.l0 k x1 x2 x3 x4 (x12 ++ [x13]) (wrap64 (x13 + 1)) x1000 x1001 x1002) else (none)) else (spec_l02Deep.l0 k x1 x2 x3 x4 x12 (wrap64 (x13 + 1)) x1000 x1001 x1002)) else (none)) else (if x4=0 then (spec_l02Deep.j1 k x1 x2 x3 x4 x12 true x1000 x1001 x1002) else (if (x1.length:Int) > 40 then (spec_l02Deep.j1 k x1 x2 x3 x4 x12 true x1000 x1001 x1002) else ((spec_l01Once.f x1000 x1001 x1002 5).bind fun bt108=>(spec_l02Deep.j1 k x1 x2 x3 x4 x12 bt108.1 x1000 bt108.2.1 bt108.2.2))))
def spec_l02Deep.j1:Nat→List (S52)→List (S52)→Int→Int→List Int→Bool→List Int→Int→Int→Option ((List (S52)) × Int × Int × Int)
 | 0,_,_,_,_,_,_,_,_,_=>none
 | k + 1,x1,x2,x3,x4,x12,x48,x1000,x1001,x1002=>if x48=true then (if (x12.length:Int) > 0 then ((spec_l01Once.f x1000 x1001 x1002 4).bind fun bt111=>(spec_l02Deep.j2 k x1 x2 x3 x12 (!bt111.1) x1000 bt111.2.1 bt111.2.2)) else (spec_l02Deep.j2 k x1 x2 x3 x12 false x1000 x1001 x1002)) else (if x3=1 then (if (x2.length:Int) > 0 then ((spec_l01Once.f x1000 x1001 x1002 2).bind fun bt131=>(spec_l02Deep.j3 k x1 x2 x3 x4 bt131.1 x1000 bt131.2.1 bt131.2.2)) else (spec_l02Deep.j3 k x1 x2 x3 x4 false x1000 x1001 x1002)) else (spec_l02Deep.j3 k x1 x2 x3 x4 false x1000 x1001 x1002))
def spec_l02Deep.j2:Nat→List (S52)→List (S52)→Int→List Int→Bool→List Int→Int→Int→Option ((List (S52)) × Int × Int × Int)
 | 0,_,_,_,_,_,_,_,_=>none
 | k + 1,x1,x2,x3,x12,x56,x1000,x1001,x1002=>if x56=true then ((spec_l01Below.f x1000 x1001 x1002 (x12.length:Int)).bind fun bt114=>(if 0≤bt114.1 then (if bt114.1 < (x12.length:Int) then (if 0≤(rd x12 bt114.1) then (if (rd x12 bt114.1) < (x2.length:Int) then ((spec_l02Push.f x1 ((rd_T52 x2 (rd x12 bt114.1)).f0) ((rd_T52 x2 (rd x12 bt114.1)).f1) ((rd_T52 x2 (rd x12 bt114.1)).f2) ((rd_T52 x2 (rd x12 bt114.1)).f3) ((rd_T52 x2 (rd x12 bt114.1)).f4) ((rd_T52 x2 (rd x12 bt114.1)).f5)).bind fun bt119=>(some (bt119.1,bt119.2,bt114.2.1,bt114.2.2))) else (none)) else (none)) else (none)) else (none))) else ((spec_l01Pow2.f k x3).bind fun t123=>((spec_l01Below.f x1000 x1001 x1002 t123).bind fun bt124=>((spec_l02Push.f x1 0 x3 bt124.1 0 0 0).bind fun bt127=>(some (bt127.1,bt127.2,bt124.2.1,bt124.2.2)))))
def spec_l02Deep.j3:Nat→List (S52)→List (S52)→Int→Int→Bool→List Int→Int→Int→Option ((List (S52)) × Int × Int × Int)
 | 0,_,_,_,_,_,_,_,_=>none
 | k + 1,x1,x2,x3,x4,x91,x1000,x1001,x1002=>if x91=true then ((spec_l01Below.f x1000 x1001 x1002 (x2.length:Int)).bind fun bt134=>(if 0≤bt134.1 then (if bt134.1 < (x2.length:Int) then ((spec_l02Deep.f k x1000 bt134.2.1 bt134.2.2 x1 x2 ((rd_T52 x2 bt134.1).f1) (wrap64 (x4 - 1))).bind fun bt138=>((spec_l02Deep.f k x1000 bt138.2.2.1 bt138.2.2.2 bt138.1 x2 ((rd_T52 x2 bt134.1).f1) (wrap64 (x4 - 1))).bind fun bt144=>((spec_l01Below.f x1000 bt144.2.2.1 bt144.2.2.2 3).bind fun bt150=>((spec_l02Push.f bt144.1 (wrap64 (13 + bt150.1)) 1 0 bt138.2.1 bt144.2.1 0).bind fun bt153=>(some (bt153.1,bt153.2,bt150.2.1,bt150.2.2)))))) else (none)) else (none))) else ((spec_l01Below.f x1000 x1001 x1002 8).bind fun bt157=>(if bt157.1=0 then ((spec_l02Deep.f k x1000 bt157.2.1 bt157.2.2 x1 x2 x3 (wrap64 (x4 - 1))).bind fun bt160=>((spec_l02Push.f bt160.1 2 x3 0 bt160.2.1 0 0).bind fun bt166=>(some (bt166.1,bt166.2,bt160.2.2.1,bt160.2.2.2)))) else (if bt157.1=1 then (if x3 > 1 then ((spec_l01Below.f x1000 bt157.2.1 bt157.2.2 (wrap64 (x3 - 1))).bind fun bt170=>((spec_l02Deep.f k x1000 bt170.2.1 bt170.2.2 x1 x2 (wrap64 (1 + bt170.1)) (wrap64 (x4 - 1))).bind fun bt173=>((spec_l02Deep.f k x1000 bt173.2.2.1 bt173.2.2.2 bt173.1 x2 (wrap64 (x3 - (wrap64 (1 + bt170.1)))) (wrap64 (x4 - 1))).bind fun bt179=>((spec_l02Push.f bt179.1 16 x3 0 bt173.2.1 bt179.2.1 0).bind fun bt185=>(some (bt185.1,bt185.2,bt179.2.2.1,bt179.2.2.2)))))) else (spec_l02Deep.j4 k x1 x2 x3 x4 x1000 bt157.2.1 bt157.2.2)) else (if bt157.1=2 then (if (x2.length:Int) > 0 then ((spec_l01Below.f x1000 bt157.2.1 bt157.2.2 (x2.length:Int)).bind fun bt189=>(if 0≤bt189.1 then (if bt189.1 < (x2.length:Int) then (if ((rd_T52 x2 bt189.1).f1) > x3 then ((spec_l02Deep.f k x1000 bt189.2.1 bt189.2.2 x1 x2 ((rd_T52 x2 bt189.1).f1) (wrap64 (x4 - 1))).bind fun bt193=>((spec_l01Below.f x1000 bt193.2.2.1 bt193.2.2.2 (wrap64 ((wrap64 (((rd_T52 x2 bt189.1).f1) - x3)) + 1))).bind fun bt199=>((spec_l02Push.f bt193.1 17 x3 bt199.1 bt193.2.1 0 0).bind fun bt202=>(some (bt202.1,bt202.2,bt199.2.1,bt199.2.2))))) else (spec_l02Deep.j4 k x1 x2 x3 x4 x1000 bt189.2.1 bt189.2.2)) else (none)) else (none))) else (spec_l02Deep.j4 k x1 x2 x3 x4 x1000 bt157.2.1 bt157.2.2)) else (if bt157.1=3 then ((spec_l02Deep.f k x1000 bt157.2.1 bt157.2.2 x1 x2 1 (wrap64 (x4 - 1))).bind fun bt206=>((spec_l02Deep.f k x1000 bt206.2.2.1 bt206.2.2.2 bt206.1 x2 x3 (wrap64 (x4 - 1))).bind fun bt212=>((spec_l02Deep.f k x1000 bt212.2.2.1 bt212.2.2.2 bt212.1 x2 x3 (wrap64 (x4 - 1))).bind fun bt218=>((spec_l02Push.f bt218.1 18 x3 0 bt206.2.1 bt212.2.1 bt218.2.1).bind fun bt224=>(some (bt224.1,bt224.2,bt218.2.2.1,bt218.2.2.2)))))) else (spec_l02Deep.j4 k x1 x2 x3 x4 x1000 bt157.2.1 bt157.2.2))))))
def spec_l02Deep.j4:Nat→List (S52)→List (S52)→Int→Int→List Int→Int→Int→Option ((List (S52)) × Int × Int × Int)
 | 0,_,_,_,_,_,_,_=>none
 | k + 1,x1,x2,x3,x4,x1000,x1001,x1002=>(spec_l02Deep.f k x1000 x1001 x1002 x1 x2 x3 (wrap64 (x4 - 1))).bind fun bt228=>((spec_l02Deep.f k x1000 bt228.2.2.1 bt228.2.2.2 bt228.1 x2 x3 (wrap64 (x4 - 1))).bind fun bt234=>((spec_l01Below.f x1000 bt234.2.2.1 bt234.2.2.2 10).bind fun bt240=>((spec_l02Push.f bt234.1 (wrap64 (3 + bt240.1)) x3 0 bt228.2.1 bt234.2.1 0).bind fun bt243=>(some (bt243.1,bt243.2,bt240.2.1,bt240.2.2)))))
def spec_l02Deep.f:Nat→List Int→Int→Int→List (S52)→List (S52)→Int→Int→Option ((List (S52)) × Int × Int × Int)
 | 0,_,_,_,_,_,_,_=>none
 | k + 1,s0_0,s0_1,s0_2,l1,l2,a3,a4=>spec_l02Deep.l0 k l1 l2 a3 a4 (([]:List Int)) 0 s0_0 s0_1 s0_2
end
theorem spec_l02Deep.calls (k:Nat):∀ (g:Nat) (s0_0:List Int) (s0_1:Int) (s0_2:Int) (P1_:Nat→Prop) (u9000_:Value) (l1:List (S52)) (A2:Option Addr) (c2:Nat) (l2:List (S52)) (a3:Int) (a4:Int) (r1:List (S52)) (r2:Int) (r3:Int) (r4:Int) (w0 w:World) (hI:IsS75 w0 w g s0_0 s0_1 s0_2) (hB:Below w0.heap.size w0 w) (ho1:Kd.R k52 52 w w0.heap.size P1_ u9000_ l1) (hr2:∀ W_,Kept w W_ (fun k_=>(P1_ k_)∨k_=g)→Kd.C k52 W_ A2 l2.length l2) (hc2:l2.length≤c2) (h:spec_l02Deep.f k s0_0 s0_1 s0_2 l1 l2 a3 a4=some (r1,r2,r3,r4)),
  Calls Tryz.prog 83 #[.pointer (some ⟨g,0,none⟩),u9000_,.slice A2 l2.length c2,.int .i64 a3,.int .i64 a4] w fun e w'=>∃ v0_:Value,e = .returned (.tuple #[v0_,.int .i64 r2])∧Kd.R k52 52 w' w0.heap.size (fun k_=>(P1_ k_∨w.heap.size≤k_)) v0_ r1∧IsS75 w0 w' g s0_0 r3 r4∧Below w0.heap.size w0 w'∧Kept w w' (fun k_=>(P1_ k_)∨k_=g):=by
 induction k using Nat.strongRecOn with
 | _ k ih =>
 intro g s0_0 s0_1 s0_2 P1_ u9000_ l1 A2 c2 l2 a3 a4 r1 r2 r3 r4 w0 w hI hB ho1 hr2 hc2 h
 cases k with
 | zero=>exact absurd h (by simp [spec_l02Deep.f])
 | succ k =>
 simp only [spec_l02Deep.f] at h;have S:Aside0 (DpS w0 w w g s0_0 s0_1 s0_2 P1_ u9000_ l1):=⟨hI,hB,Kd.R_mono (hI.apart ho1 (by decide)) (fun k hk=>⟨Or.inl hk.1,hk.2⟩),Kept.refl _ _⟩;have HV:=Aside0.mk hr2;have HC:=Aside0.mk hc2;have HL:=Aside0.mk h;clear hI hB ho1 hr2 hc2 h;obtain ⟨Au,cu,eu⟩:=Kd.R_slice S.out.T;subst eu
 go_enter Tryz.func83,Tryz.ntmps83
 go_upto_block 0 with (first|((with_reducible refine gate_dst (N:=20) rfl ?_);refine Kd.R_lit (Kd.int .i64) _ 3 ?hg (N:=20) ?hd (xs:=([]:List Int)) (inner:=[]) (ok:=fun _=>True) (okp:=fun _=>True) ?hr ?hp (fun _ hk=>hk) trivial (Below.refl _ _) (Nat.le_refl _) (by simp) ?_;(case hd=>rfl);(case hg=>rfl);(case hr=>first|(go_simp;done)|(go_simp;rfl));(case hp=>exact (Reps.none _ _));intro v102 w1 ho hb hg_ hnew_;clear hg_ hnew_;have HO1:=Aside0.mk ho;have HB1:=Aside0.mk hb;clear ho hb))
 go_cut [12] (fun v12 wx=>∃ (ws:List Int) (kk:Nat),Aside0 (kk≤k)∧Aside0 ((if a4=0 then (spec_l02Deep.j1 kk l1 l2 a3 a4 ws true s0_0 s0_1 s0_2) else (if (l1.length:Int) > 40 then (spec_l02Deep.j1 kk l1 l2 a3 a4 ws true s0_0 s0_1 s0_2) else ((spec_l01Once.f s0_0 s0_1 s0_2 5).bind fun bt108=>(spec_l02Deep.j1 kk l1 l2 a3 a4 ws bt108.1 s0_0 bt108.2.1 bt108.2.2))))=some (r1,r2,r3,r4))∧Aside0 (Kd.R (Kd.int .i64) 3 wx w.heap.size (fun _=>True) v12 ws)∧Aside0 (Below w.heap.size w wx))
 case first=>as_aux_lemma =>
  go_wp2_with fail
  go_loopg [12,13] k (fun kq v12 v13 wr=>∃ (ws:List Int) (i:Int),v13 = .int .i64 i∧Aside0 (spec_l02Deep.l0 kq l1 l2 a3 a4 ws i s0_0 s0_1 s0_2=some (r1,r2,r3,r4))∧Aside0 (kq≤k)∧Aside0 (Kd.R (Kd.int .i64) 3 wr w.heap.size (fun _=>True) v12 ws)∧Aside0 (Below w.heap.size w wr))
  case atStart=>exact ⟨[],0,rfl,HL,⟨Nat.le_refl _⟩,HO1,HB1⟩
  case round =>
   clear HL HO1 HB1;obtain ⟨ws,i,rfl,HA,HK1,HO,HB⟩:=hrel;obtain ⟨Av,cv,ev⟩:=Kd.R_slice HO.out;subst ev
   cases gk with
   | zero=>exact absurd HA.out (by simp [spec_l02Deep.l0])
   | succ k1 =>
   have H:=HA.out;clear HA;simp only [spec_l02Deep.l0] at H
   by_cases c5:i < (l2.length:Int)
   ·rw [if_pos c5] at H
    by_cases c6:0≤i
    case neg=>rw [if_neg c6] at H;cases H
    rw [if_pos c6] at H;obtain ⟨ad,e_,_,hx1,_⟩:=at_T52 (HV.out _ (Kept.of_below HB.out _)) i c6 c5;cases e_;have d5:decide (i < (l2.length:Int))=true:=decide_eq_true c5;have d6:decide (0≤i)=true:=decide_eq_true c6;replace c5:=eq_true c5;replace c6:=eq_true c6
    by_cases c7:(rd_T52 l2 i).f1=a3
    ·rw [if_pos c7] at H;have b7:=beq_iff_eq.2 c7
     by_cases c8:ws.length < 17592186044416
     case neg=>rw [if_neg c8] at H;cases H
     rw [if_pos c8] at H;have LM:=Aside0.mk c8;have H':=Aside0.mk H;clear H c7 c8;go_wp2_with (first|((with_reducible refine gate_builtin (b := .append) (xs:=#[.tmp 34,.tmp 36]) rfl ?_);at_builtin;refine Kd.R_append (Kd.int .i64) (w0:=w) w.heap.size rfl (.tmp 34) (.tmp 36) 42 3 (.int .i64 0) 8 rfl Tryz.underlying42 info3 rfl (by decide) (by omega) (.slice Av ws.length cv) ws i [.int .i64 i] (fun _=>True) (fun _=>False) rfl rfl ?aP (fun _ hk=>hk.elim) ?aF ?aO ?aB ?aS ?aL ?_;(case aP=>exact rfl);(case aB=>exact (tb HB));(case aF=>exact (fun _ _=>trivial));(case aO=>exact (ra HO));(case aS=>exact (below_size (tb HB)));(case aL=>have:=LM.out;omega);intro v105 w6 ho hb hg hat;have HB6:=Aside0.mk hb;have HO6:=Aside0.mk ho;clear ho hb hg hat));go_roundg k1
     case measure=>have:=HK1.out;omega
     case rel=>exact ⟨_,wrap64 (i + 1),rfl,H',⟨by have:=HK1.out;omega⟩,HO6,HB6⟩
    ·rw [if_neg c7] at H;have b7:=beq_eq_false_iff_ne.2 c7;have H':=Aside0.mk H;clear H c7;go_wp2;go_roundg k1
     case measure=>have:=HK1.out;omega
     case rel=>exact ⟨_,wrap64 (i + 1),rfl,H',⟨by have:=HK1.out;omega⟩,⟨(ra HO)⟩,⟨(tb HB)⟩⟩
   ·rw [if_neg c5] at H;have d5:decide (i < (l2.length:Int))=false:=decide_eq_false c5;have H':=Aside0.mk H;clear c5 H;go_wp2;go_meet;exact ⟨ws,k1,⟨by have:=HK1.out;omega⟩,H',HO,HB⟩
 case rest =>
  clear HL HO1 HB1;obtain ⟨ws,kk,L0,HJ,HO,HB⟩:=hcut;have S_:=Aside0.mk (S.out.below HB.out);clear S;have S:=S_;clear S_;have HO_:=Aside0.mk (Kd.R_mono (S.out.I.apart HO.out (by decide)) (fun k hk=>hk.2));clear HO HB;have HO:=HO_;clear HO_;obtain ⟨Av,cv,ev⟩:=Kd.R_slice HO.out;subst ev;have H:=HJ.out;clear HJ
  go_upto_region 7 with (fail)
  go_cut [48] (fun v wx=>∃ (b:Bool) (p q:Int),v = .bool b∧Aside0 (spec_l02Deep.j1 kk l1 l2 a3 a4 ws b s0_0 p q=some (r1,r2,r3,r4))∧Aside0 (DpS w0 w wx g s0_0 p q P1_ (.slice Au l1.length cu) l1)∧Aside0 (Kd.R (Kd.int .i64) 3 wx w.heap.size (fun k=>k≠g) (.slice Av ws.length cv) ws))
  case first=>as_aux_lemma =>
   by_cases c1:a4=0
   ·rw [if_pos c1] at H;have b1:=beq_iff_eq.2 c1;have H':=Aside0.mk H;clear H c1;go_wp2;go_meet;exact ⟨true,_,_,rfl,H',S,HO⟩
   rw [if_neg c1] at H;have b1:=beq_eq_false_iff_ne.2 c1;clear c1
   by_cases c2:(l1.length:Int) > 40
   ·rw [if_pos c2] at H;have b2:decide (40 < l1.length)=true:=decide_eq_true (by omega);have b3:decide (40 < (l1.length:Int))=true:=decide_eq_true c2;have H':=Aside0.mk H;clear H c2;go_wp2;go_meet;exact ⟨true,_,_,rfl,H',S,HO⟩
   rw [if_neg c2] at H;have b2:decide (40 < l1.length)=false:=decide_eq_false (by omega);have b3:decide (40 < (l1.length:Int))=false:=decide_eq_false c2;obtain ⟨⟨o_,p1,q1⟩,h_,H⟩:=Option.bind_eq_some_iff.1 H;have O1:=Aside0.mk h_;clear h_;dsimp only at H;have H':=Aside0.mk H;clear H c2;go_wp2_with (first|(go_at_call 80;(try simp only [i64_w,i32_w]);(with_reducible refine (spec_l01Once.calls g s0_0 _ _ _ _ _ _ w0 _ S.out.I S.out.B O1.out).mono ?_);rintro e w' ⟨rfl,hi,hb,hk⟩;have S_:=Aside0.mk (S.out.cur hi hb hk);clear S;have S:=S_;clear S_;have HO_:=Aside0.mk (Kd.R_keep HO.out hk (fun _ h=>h));clear HO;have HO:=HO_;clear HO_;clear hi hb hk));go_meet;exact ⟨_,_,_,rfl,H',S,HO⟩
  case rest =>
   clear H S HO;obtain ⟨b,p,q,rfl,HJ,S,HO⟩:=hcut;have H:=HJ.out;clear HJ
   cases kk with
   | zero=>cases H
   | succ kk =>
   cases b with
   | true =>
    simp only [spec_l02Deep.j1,if_true] at H
    go_upto_region 8 with (fail)
    go_cut [56] (fun v wx=>∃ (b:Bool) (p q:Int),v = .bool b∧Aside0 (spec_l02Deep.j2 kk l1 l2 a3 ws b s0_0 p q=some (r1,r2,r3,r4))∧Aside0 (DpS w0 w wx g s0_0 p q P1_ (.slice Au l1.length cu) l1)∧Aside0 (Kd.R (Kd.int .i64) 3 wx w.heap.size (fun k=>k≠g) (.slice Av ws.length cv) ws))
    case first=>as_aux_lemma =>
     by_cases c1:(ws.length:Int) > 0
     ·rw [if_pos c1] at H;have b2:decide (0 < ws.length)=true:=decide_eq_true (by omega);have b3:decide (0 < (ws.length:Int))=true:=decide_eq_true c1;obtain ⟨⟨o_,p1,q1⟩,h_,H⟩:=Option.bind_eq_some_iff.1 H;have O1:=Aside0.mk h_;clear h_;dsimp only at H;have H':=Aside0.mk H;clear H c1;go_wp2_with (first|(go_at_call 80;(try simp only [i64_w,i32_w]);(with_reducible refine (spec_l01Once.calls g s0_0 _ _ _ _ _ _ w0 _ S.out.I S.out.B O1.out).mono ?_);rintro e w' ⟨rfl,hi,hb,hk⟩;have S_:=Aside0.mk (S.out.cur hi hb hk);clear S;have S:=S_;clear S_;have HO_:=Aside0.mk (Kd.R_keep HO.out hk (fun _ h=>h));clear HO;have HO:=HO_;clear HO_;clear hi hb hk));go_meet;exact ⟨_,_,_,rfl,H',S,HO⟩
     ·rw [if_neg c1] at H;have b2:decide (0 < ws.length)=false:=decide_eq_false (by omega);have b3:decide (0 < (ws.length:Int))=false:=decide_eq_false c1;have H':=Aside0.mk H;clear H c1;go_wp2;go_meet;exact ⟨false,_,_,rfl,H',S,HO⟩
    case rest =>
     clear H S HO;obtain ⟨b,p,q,rfl,HJ,S,HO⟩:=hcut;have H:=HJ.out;clear HJ
     cases kk with
     | zero=>cases H
     | succ kk =>
     cases b with
     | true =>
      simp only [spec_l02Deep.j2,if_true] at H;obtain ⟨⟨rb,p1,q1⟩,h_,H⟩:=Option.bind_eq_some_iff.1 H;have B1:=Aside0.mk h_;clear h_;dsimp only at H
      by_cases x0:0≤rb;rotate_left;(rw [if_neg x0] at H;cases H);rotate_right;by_cases x1:rb < (ws.length:Int);rotate_left;(rw [if_pos x0,if_neg x1] at H;cases H);rotate_right;rw [if_pos x0,if_pos x1] at H;have d0:decide (0≤rb)=true:=decide_eq_true x0;have d1:decide (rb < (ws.length:Int))=true:=decide_eq_true x1
      obtain ⟨a8,e_,_⟩:=Kd.at_int (Kd.R_reads' HO.out).2.2 _ x0 x1;cases e_;have Y0:=Aside0.mk x0;have Y1:=Aside0.mk x1;replace x0:=eq_true x0;replace x1:=eq_true x1;have ee0:=d0;have ee1:=d1;have y0:=x0;have y1:=x1;clear d0 d1 x0 x1
      by_cases x0:0≤(rd ws rb);rotate_left;(rw [if_neg x0] at H;cases H);rotate_right;by_cases x1:(rd ws rb) < (l2.length:Int);rotate_left;(rw [if_pos x0,if_neg x1] at H;cases H);rotate_right;rw [if_pos x0,if_pos x1] at H;have d0:decide (0≤(rd ws rb))=true:=decide_eq_true x0;have d1:decide ((rd ws rb) < (l2.length:Int))=true:=decide_eq_true x1
      obtain ⟨ad,e_,_⟩:=at_T52 (S.out.vars HV.out _ (Kept.refl _ _)) _ x0 x1;cases e_;have X0:=Aside0.mk x0;have X1:=Aside0.mk x1;replace x0:=eq_true x0;replace x1:=eq_true x1;obtain ⟨⟨lg,ng⟩,h_,H⟩:=Option.bind_eq_some_iff.1 H;have G1:=Aside0.mk h_;clear h_;dsimp only at H;simp only [Option.some.injEq,Prod.mk.injEq] at H;obtain ⟨rfl,rfl,rfl,rfl⟩:=H;clear H
      (as_aux_lemma=>(go_wp2_with (first|(go_at_call 81;(try simp only [i64_w,i32_w]);(with_reducible refine (spec_l01Below.calls g s0_0 _ _ _ _ _ _ w0 _ S.out.I S.out.B (by first|exact B1.out|exact B2.out)).mono ?_);rintro e w' ⟨rfl,hi,hb,hk⟩;have S_:=Aside0.mk (S.out.cur hi hb hk);clear S;have S:=S_;clear S_;have HO_:=Aside0.mk (Kd.R_keep HO.out hk (fun _ h=>h));clear HO;have HO:=HO_;clear HO_;clear hi hb hk;obtain ⟨ad_,e_,hx0,hx1,hx2,hx3,hx4,hx5⟩:=at_T52 (S.out.vars HV.out _ (Kept.refl _ _)) _ X0.out X1.out;obtain rfl:ad=ad_:=(by injection e_);clear e_;obtain ⟨as_,e_,hs0⟩:=Kd.at_int (Kd.R_reads' HO.out).2.2 _ Y0.out Y1.out;obtain rfl:a8=as_:=(by injection e_);clear e_)|(go_at_call 82;(try simp only [i64_w,i32_w]);(with_reducible refine (spec_l02Push.calls _ _ _ _ _ _ _ _ _ _ _ w0 _ S.out.B S.out.T (by first|exact G1.out)).mono ?_);rintro e w' ⟨v_,rfl,ht,hb,hk⟩;have S_:=Aside0.mk (S.out.push ht hb hk);clear S;have S:=S_;clear S_;clear hb hk ht));go_ret2;exact ⟨_,by first|rfl|(simp;done),S.out.fin,S.out.I,S.out.B,S.out.K⟩))
     | false =>
      simp only [spec_l02Deep.j2,Bool.false_eq_true,if_false] at H;obtain ⟨pw,h_,H⟩:=Option.bind_eq_some_iff.1 H;have W1:=Aside0.mk h_;clear h_;obtain ⟨⟨rb,p1,q1⟩,h_,H⟩:=Option.bind_eq_some_iff.1 H;have B1:=Aside0.mk h_;clear h_;dsimp only at H;obtain ⟨⟨lg,ng⟩,h_,H⟩:=Option.bind_eq_some_iff.1 H;have G1:=Aside0.mk h_;clear h_;dsimp only at H;simp only [Option.some.injEq,Prod.mk.injEq] at H;obtain ⟨rfl,rfl,rfl,rfl⟩:=H;clear H
      (as_aux_lemma=>(go_wp2_with (first|(go_at_call 68;(try simp only [i64_w,i32_w]);(with_reducible refine (spec_l01Pow2.calls _ _ _ _ W1.out).mono ?_);rintro e w' ⟨rfl,⟨nd,rfl⟩⟩;have S_:=Aside0.mk (S.out.dn nd);clear S;have S:=S_;clear S_)|(go_at_call 81;(try simp only [i64_w,i32_w]);(with_reducible refine (spec_l01Below.calls g s0_0 _ _ _ _ _ _ w0 _ S.out.I S.out.B (by first|exact B1.out|exact B2.out)).mono ?_);rintro e w' ⟨rfl,hi,hb,hk⟩;have S_:=Aside0.mk (S.out.cur hi hb hk);clear S;have S:=S_;clear S_;clear hi hb hk)|(go_at_call 82;(try simp only [i64_w,i32_w]);(with_reducible refine (spec_l02Push.calls _ _ _ _ _ _ _ _ _ _ _ w0 _ S.out.B S.out.T (by first|exact G1.out)).mono ?_);rintro e w' ⟨v_,rfl,ht,hb,hk⟩;have S_:=Aside0.mk (S.out.push ht hb hk);clear S;have S:=S_;clear S_;clear hb hk ht));go_ret2;exact ⟨_,by first|rfl|(simp;done),S.out.fin,S.out.I,S.out.B,S.out.K⟩))
   | false =>
   clear HO;simp only [spec_l02Deep.j1,Bool.false_eq_true,if_false] at H
   go_upto_region 12 with (fail)
   go_cut [91] (fun v wx=>∃ (b:Bool) (p q:Int),v = .bool b∧Aside0 (spec_l02Deep.j3 kk l1 l2 a3 a4 b s0_0 p q=some (r1,r2,r3,r4))∧Aside0 (DpS w0 w wx g s0_0 p q P1_ (.slice Au l1.length cu) l1))
   case first=>as_aux_lemma =>
    by_cases c1:a3=1
    ·rw [if_pos c1] at H;have b1:=beq_iff_eq.2 c1
     by_cases c2:(l2.length:Int) > 0
     ·rw [if_pos c2] at H;have b2:decide (0 < l2.length)=true:=decide_eq_true (by omega);have b3:decide (0 < (l2.length:Int))=true:=decide_eq_true c2;obtain ⟨⟨o_,p1,q1⟩,h_,H⟩:=Option.bind_eq_some_iff.1 H;have O1:=Aside0.mk h_;clear h_;dsimp only at H;have H':=Aside0.mk H;clear H c1 c2;go_wp2_with (first|(go_at_call 80;(try simp only [i64_w,i32_w]);(with_reducible refine (spec_l01Once.calls g s0_0 _ _ _ _ _ _ w0 _ S.out.I S.out.B O1.out).mono ?_);rintro e w' ⟨rfl,hi,hb,hk⟩;have S_:=Aside0.mk (S.out.cur hi hb hk);clear S;have S:=S_;clear S_;clear hi hb hk));go_meet;exact ⟨_,_,_,rfl,H',S⟩
     ·rw [if_neg c2] at H;have b2:decide (0 < l2.length)=false:=decide_eq_false (by omega);have b3:decide (0 < (l2.length:Int))=false:=decide_eq_false c2;have H':=Aside0.mk H;clear H c1 c2;go_wp2;go_meet;exact ⟨false,_,_,rfl,H',S⟩
    ·rw [if_neg c1] at H;have b1:=beq_eq_false_iff_ne.2 c1;have H':=Aside0.mk H;clear H c1;go_wp2;go_meet;exact ⟨false,_,_,rfl,H',S⟩
   case rest =>
    clear H S;obtain ⟨b,p,q,rfl,HJ,S⟩:=hcut;have H:=HJ.out;clear HJ
    cases kk with
    | zero=>cases H
    | succ kk =>
    have L1:=Aside0.mk (show kk≤k by have:=L0.out;omega)
    cases b with
    | true =>
     simp only [spec_l02Deep.j3,if_true] at H;obtain ⟨⟨rb,p1,q1⟩,h_,H⟩:=Option.bind_eq_some_iff.1 H;have B1:=Aside0.mk h_;clear h_;dsimp only at H
     by_cases x0:0≤rb;rotate_left;(rw [if_neg x0] at H;cases H);rotate_right;by_cases x1:rb < (l2.length:Int);rotate_left;(rw [if_pos x0,if_neg x1] at H;cases H);rotate_right;rw [if_pos x0,if_pos x1] at H;have d0:decide (0≤rb)=true:=decide_eq_true x0;have d1:decide (rb < (l2.length:Int))=true:=decide_eq_true x1
     obtain ⟨ad,e_,_⟩:=at_T52 (S.out.vars HV.out _ (Kept.refl _ _)) _ x0 x1;cases e_;have X0:=Aside0.mk x0;have X1:=Aside0.mk x1;replace x0:=eq_true x0;replace x1:=eq_true x1;obtain ⟨⟨la,na,p3,q3⟩,h_,H⟩:=Option.bind_eq_some_iff.1 H;have F1:=Aside0.mk h_;clear h_;dsimp only at H;obtain ⟨⟨lb,nb,p4,q4⟩,h_,H⟩:=Option.bind_eq_some_iff.1 H;have F2:=Aside0.mk h_;clear h_;dsimp only at H;obtain ⟨⟨rc,p2,q2⟩,h_,H⟩:=Option.bind_eq_some_iff.1 H;have B2:=Aside0.mk h_;clear h_;dsimp only at H;obtain ⟨⟨lg,ng⟩,h_,H⟩:=Option.bind_eq_some_iff.1 H;have G1:=Aside0.mk h_;clear h_;dsimp only at H;simp only [Option.some.injEq,Prod.mk.injEq] at H;obtain ⟨rfl,rfl,rfl,rfl⟩:=H;clear H
     (as_aux_lemma=>(go_wp2_with (first|(go_at_call 81;(try simp only [i64_w,i32_w]);(with_reducible refine (spec_l01Below.calls g s0_0 _ _ _ _ _ _ w0 _ S.out.I S.out.B (by first|exact B1.out|exact B2.out)).mono ?_);rintro e w' ⟨rfl,hi,hb,hk⟩;have S_:=Aside0.mk (S.out.cur hi hb hk);clear S;have S:=S_;clear S_;clear hi hb hk;obtain ⟨ad_,e_,hx0,hx1,hx2,hx3,hx4,hx5⟩:=at_T52 (S.out.vars HV.out _ (Kept.refl _ _)) _ X0.out X1.out;obtain rfl:ad=ad_:=(by injection e_);clear e_)|(go_at_call 81;(try simp only [i64_w,i32_w]);(with_reducible refine (spec_l01Below.calls g s0_0 _ _ _ _ _ _ w0 _ S.out.I S.out.B (by first|exact B1.out|exact B2.out)).mono ?_);rintro e w' ⟨rfl,hi,hb,hk⟩;have S_:=Aside0.mk (S.out.cur hi hb hk);clear S;have S:=S_;clear S_;clear hi hb hk)|(go_at_call 83;(try simp only [i64_w,i32_w]);(with_reducible refine (ih kk (Nat.lt_succ_of_le (by first|exact L1.out|exact L2.out)) g s0_0 _ _ _ _ _ _ c2 l2 _ _ _ _ _ _ w0 _ S.out.I S.out.B S.out.T (S.out.vars HV.out) HC.out (by first|exact F1.out|exact F2.out|exact F3.out)).mono ?_);rintro e w' ⟨v_,rfl,ht,hi,hb,hk⟩;have S_:=Aside0.mk (S.out.deep ht hi hb hk);clear S;have S:=S_;clear S_;clear hi hb hk ht;obtain ⟨Ao_,co_,eo_⟩:=Kd.R_slice S.out.T;subst eo_)|(go_at_call 82;(try simp only [i64_w,i32_w]);(with_reducible refine (spec_l02Push.calls _ _ _ _ _ _ _ _ _ _ _ w0 _ S.out.B S.out.T (by first|exact G1.out)).mono ?_);rintro e w' ⟨v_,rfl,ht,hb,hk⟩;have S_:=Aside0.mk (S.out.push ht hb hk);clear S;have S:=S_;clear S_;clear hb hk ht));go_ret2;exact ⟨_,by first|rfl|(simp;done),S.out.fin,S.out.I,S.out.B,S.out.K⟩))
    | false =>
     simp only [spec_l02Deep.j3,Bool.false_eq_true,if_false] at H;obtain ⟨⟨rb,p1,q1⟩,h_,H⟩:=Option.bind_eq_some_iff.1 H;have B1:=Aside0.mk h_;clear h_;dsimp only at H
     have z:∀ n:Int,rb=n→(rb == n)=true:=fun n h=>beq_iff_eq.2 h
     have z':∀ n:Int,¬ rb=n→(rb == n)=false:=fun n h=>beq_eq_false_iff_ne.2 h
     by_cases z0:rb=0
     ·rw [if_pos z0] at H;have ee0:=z 0 z0;obtain ⟨⟨la,na,p3,q3⟩,h_,H⟩:=Option.bind_eq_some_iff.1 H;have F1:=Aside0.mk h_;clear h_;dsimp only at H;obtain ⟨⟨lg,ng⟩,h_,H⟩:=Option.bind_eq_some_iff.1 H;have G1:=Aside0.mk h_;clear h_;dsimp only at H;simp only [Option.some.injEq,Prod.mk.injEq] at H;obtain ⟨rfl,rfl,rfl,rfl⟩:=H;clear H z z' z0
      (as_aux_lemma=>(go_wp2_with (first|(go_at_call 81;(try simp only [i64_w,i32_w]);(with_reducible refine (spec_l01Below.calls g s0_0 _ _ _ _ _ _ w0 _ S.out.I S.out.B (by first|exact B1.out|exact B2.out|exact B3.out)).mono ?_);rintro e w' ⟨rfl,hi,hb,hk⟩;have S_:=Aside0.mk (S.out.cur hi hb hk);clear S;have S:=S_;clear S_;clear hi hb hk)|(go_at_call 83;(try simp only [i64_w,i32_w]);(with_reducible refine (ih kk (Nat.lt_succ_of_le (by first|exact L1.out|exact L2.out)) g s0_0 _ _ _ _ _ _ c2 l2 _ _ _ _ _ _ w0 _ S.out.I S.out.B S.out.T (S.out.vars HV.out) HC.out (by first|exact F1.out|exact F2.out|exact F3.out)).mono ?_);rintro e w' ⟨v_,rfl,ht,hi,hb,hk⟩;have S_:=Aside0.mk (S.out.deep ht hi hb hk);clear S;have S:=S_;clear S_;clear hi hb hk ht;obtain ⟨Ao_,co_,eo_⟩:=Kd.R_slice S.out.T;subst eo_)|(go_at_call 82;(try simp only [i64_w,i32_w]);(with_reducible refine (spec_l02Push.calls _ _ _ _ _ _ _ _ _ _ _ w0 _ S.out.B S.out.T (by first|exact G1.out)).mono ?_);rintro e w' ⟨v_,rfl,ht,hb,hk⟩;have S_:=Aside0.mk (S.out.push ht hb hk);clear S;have S:=S_;clear S_;clear hb hk ht));go_ret2;exact ⟨_,by first|rfl|(simp;done),S.out.fin,S.out.I,S.out.B,S.out.K⟩))
     rw [if_neg z0] at H;have ee0:=z' 0 z0
     by_cases z1:rb=1
     ·rw [if_pos z1] at H;have ee1:=z 1 z1
      by_cases c1:a3 > 1
      ·rw [if_pos c1] at H;have b1:decide (1 < a3)=true:=decide_eq_true c1;obtain ⟨⟨rc,p2,q2⟩,h_,H⟩:=Option.bind_eq_some_iff.1 H;have B2:=Aside0.mk h_;clear h_;dsimp only at H;obtain ⟨⟨la,na,p3,q3⟩,h_,H⟩:=Option.bind_eq_some_iff.1 H;have F1:=Aside0.mk h_;clear h_;dsimp only at H;obtain ⟨⟨lb,nb,p4,q4⟩,h_,H⟩:=Option.bind_eq_some_iff.1 H;have F2:=Aside0.mk h_;clear h_;dsimp only at H;obtain ⟨⟨lg,ng⟩,h_,H⟩:=Option.bind_eq_some_iff.1 H;have G1:=Aside0.mk h_;clear h_;dsimp only at H;simp only [Option.some.injEq,Prod.mk.injEq] at H;obtain ⟨rfl,rfl,rfl,rfl⟩:=H;clear H z z' z0 z1 c1
       (as_aux_lemma=>(go_wp2_with (first|(go_at_call 81;(try simp only [i64_w,i32_w]);(with_reducible refine (spec_l01Below.calls g s0_0 _ _ _ _ _ _ w0 _ S.out.I S.out.B (by first|exact B1.out|exact B2.out|exact B3.out)).mono ?_);rintro e w' ⟨rfl,hi,hb,hk⟩;have S_:=Aside0.mk (S.out.cur hi hb hk);clear S;have S:=S_;clear S_;clear hi hb hk)|(go_at_call 83;(try simp only [i64_w,i32_w]);(with_reducible refine (ih kk (Nat.lt_succ_of_le (by first|exact L1.out|exact L2.out)) g s0_0 _ _ _ _ _ _ c2 l2 _ _ _ _ _ _ w0 _ S.out.I S.out.B S.out.T (S.out.vars HV.out) HC.out (by first|exact F1.out|exact F2.out|exact F3.out)).mono ?_);rintro e w' ⟨v_,rfl,ht,hi,hb,hk⟩;have S_:=Aside0.mk (S.out.deep ht hi hb hk);clear S;have S:=S_;clear S_;clear hi hb hk ht;obtain ⟨Ao_,co_,eo_⟩:=Kd.R_slice S.out.T;subst eo_)|(go_at_call 82;(try simp only [i64_w,i32_w]);(with_reducible refine (spec_l02Push.calls _ _ _ _ _ _ _ _ _ _ _ w0 _ S.out.B S.out.T (by first|exact G1.out)).mono ?_);rintro e w' ⟨v_,rfl,ht,hb,hk⟩;have S_:=Aside0.mk (S.out.push ht hb hk);clear S;have S:=S_;clear S_;clear hb hk ht));go_ret2;exact ⟨_,by first|rfl|(simp;done),S.out.fin,S.out.I,S.out.B,S.out.K⟩))
      ·rw [if_neg c1] at H;have b1:decide (1 < a3)=false:=decide_eq_false c1;clear z z' z0 z1 c1
       cases kk with
       | zero=>cases H
       | succ kk =>
       have L2:=Aside0.mk (show kk≤k by have:=L0.out;omega);simp only [spec_l02Deep.j4] at H;obtain ⟨⟨la,na,p3,q3⟩,h_,H⟩:=Option.bind_eq_some_iff.1 H;have F1:=Aside0.mk h_;clear h_;dsimp only at H;obtain ⟨⟨lb,nb,p4,q4⟩,h_,H⟩:=Option.bind_eq_some_iff.1 H;have F2:=Aside0.mk h_;clear h_;dsimp only at H;obtain ⟨⟨rf,p6,q6⟩,h_,H⟩:=Option.bind_eq_some_iff.1 H;have B3:=Aside0.mk h_;clear h_;dsimp only at H;obtain ⟨⟨lg,ng⟩,h_,H⟩:=Option.bind_eq_some_iff.1 H;have G1:=Aside0.mk h_;clear h_;dsimp only at H;simp only [Option.some.injEq,Prod.mk.injEq] at H;obtain ⟨rfl,rfl,rfl,rfl⟩:=H;clear H
       (as_aux_lemma=>(go_wp2_with (first|(go_at_call 81;(try simp only [i64_w,i32_w]);(with_reducible refine (spec_l01Below.calls g s0_0 _ _ _ _ _ _ w0 _ S.out.I S.out.B (by first|exact B1.out|exact B2.out|exact B3.out)).mono ?_);rintro e w' ⟨rfl,hi,hb,hk⟩;have S_:=Aside0.mk (S.out.cur hi hb hk);clear S;have S:=S_;clear S_;clear hi hb hk)|(go_at_call 83;(try simp only [i64_w,i32_w]);(with_reducible refine (ih kk (Nat.lt_succ_of_le (by first|exact L1.out|exact L2.out)) g s0_0 _ _ _ _ _ _ c2 l2 _ _ _ _ _ _ w0 _ S.out.I S.out.B S.out.T (S.out.vars HV.out) HC.out (by first|exact F1.out|exact F2.out|exact F3.out)).mono ?_);rintro e w' ⟨v_,rfl,ht,hi,hb,hk⟩;have S_:=Aside0.mk (S.out.deep ht hi hb hk);clear S;have S:=S_;clear S_;clear hi hb hk ht;obtain ⟨Ao_,co_,eo_⟩:=Kd.R_slice S.out.T;subst eo_)|(go_at_call 82;(try simp only [i64_w,i32_w]);(with_reducible refine (spec_l02Push.calls _ _ _ _ _ _ _ _ _ _ _ w0 _ S.out.B S.out.T (by first|exact G1.out)).mono ?_);rintro e w' ⟨v_,rfl,ht,hb,hk⟩;have S_:=Aside0.mk (S.out.push ht hb hk);clear S;have S:=S_;clear S_;clear hb hk ht));go_ret2;exact ⟨_,by first|rfl|(simp;done),S.out.fin,S.out.I,S.out.B,S.out.K⟩))
     rw [if_neg z1] at H;have ee1:=z' 1 z1
     by_cases z2:rb=2
     ·rw [if_pos z2] at H;have ee2:=z 2 z2
      by_cases c1:(l2.length:Int) > 0
      ·rw [if_pos c1] at H;have b1:decide (0 < l2.length)=true:=decide_eq_true (by omega);have b2:decide (0 < (l2.length:Int))=true:=decide_eq_true c1;obtain ⟨⟨rc,p2,q2⟩,h_,H⟩:=Option.bind_eq_some_iff.1 H;have B2:=Aside0.mk h_;clear h_;dsimp only at H
       by_cases x0:0≤rc;rotate_left;(rw [if_neg x0] at H;cases H);rotate_right;by_cases x1:rc < (l2.length:Int);rotate_left;(rw [if_pos x0,if_neg x1] at H;cases H);rotate_right;rw [if_pos x0,if_pos x1] at H;have d0:decide (0≤rc)=true:=decide_eq_true x0;have d1:decide (rc < (l2.length:Int))=true:=decide_eq_true x1
       by_cases cx2:(rd_T52 l2 rc).f1 > a3
       ·rw [if_pos cx2] at H;have b3:decide (a3 < (rd_T52 l2 rc).f1)=true:=decide_eq_true cx2;obtain ⟨⟨la,na,p3,q3⟩,h_,H⟩:=Option.bind_eq_some_iff.1 H;have F1:=Aside0.mk h_;clear h_;dsimp only at H;obtain ⟨⟨rf,p6,q6⟩,h_,H⟩:=Option.bind_eq_some_iff.1 H;have B3:=Aside0.mk h_;clear h_;dsimp only at H;obtain ⟨⟨lg,ng⟩,h_,H⟩:=Option.bind_eq_some_iff.1 H;have G1:=Aside0.mk h_;clear h_;dsimp only at H;simp only [Option.some.injEq,Prod.mk.injEq] at H;obtain ⟨rfl,rfl,rfl,rfl⟩:=H;clear H z z' z0 z1 z2 c1 cx2;obtain ⟨ad,e_,_⟩:=at_T52 (S.out.vars HV.out _ (Kept.refl _ _)) _ x0 x1;cases e_;have X0:=Aside0.mk x0;have X1:=Aside0.mk x1;replace x0:=eq_true x0;replace x1:=eq_true x1
        (as_aux_lemma=>(go_wp2_with (first|(go_at_call 81;(try simp only [i64_w,i32_w]);(with_reducible refine (spec_l01Below.calls g s0_0 _ _ _ _ _ _ w0 _ S.out.I S.out.B (by first|exact B1.out|exact B2.out)).mono ?_);rintro e w' ⟨rfl,hi,hb,hk⟩;have S_:=Aside0.mk (S.out.cur hi hb hk);clear S;have S:=S_;clear S_;clear hi hb hk;obtain ⟨ad_,e_,hx0,hx1,hx2,hx3,hx4,hx5⟩:=at_T52 (S.out.vars HV.out _ (Kept.refl _ _)) _ X0.out X1.out;obtain rfl:ad=ad_:=(by injection e_);clear e_)|(go_at_call 81;(try simp only [i64_w,i32_w]);(with_reducible refine (spec_l01Below.calls g s0_0 _ _ _ _ _ _ w0 _ S.out.I S.out.B (by first|exact B1.out|exact B2.out|exact B3.out)).mono ?_);rintro e w' ⟨rfl,hi,hb,hk⟩;have S_:=Aside0.mk (S.out.cur hi hb hk);clear S;have S:=S_;clear S_;clear hi hb hk)|(go_at_call 83;(try simp only [i64_w,i32_w]);(with_reducible refine (ih kk (Nat.lt_succ_of_le (by first|exact L1.out|exact L2.out)) g s0_0 _ _ _ _ _ _ c2 l2 _ _ _ _ _ _ w0 _ S.out.I S.out.B S.out.T (S.out.vars HV.out) HC.out (by first|exact F1.out|exact F2.out|exact F3.out)).mono ?_);rintro e w' ⟨v_,rfl,ht,hi,hb,hk⟩;have S_:=Aside0.mk (S.out.deep ht hi hb hk);clear S;have S:=S_;clear S_;clear hi hb hk ht;obtain ⟨Ao_,co_,eo_⟩:=Kd.R_slice S.out.T;subst eo_)|(go_at_call 82;(try simp only [i64_w,i32_w]);(with_reducible refine (spec_l02Push.calls _ _ _ _ _ _ _ _ _ _ _ w0 _ S.out.B S.out.T (by first|exact G1.out)).mono ?_);rintro e w' ⟨v_,rfl,ht,hb,hk⟩;have S_:=Aside0.mk (S.out.push ht hb hk);clear S;have S:=S_;clear S_;clear hb hk ht));go_ret2;exact ⟨_,by first|rfl|(simp;done),S.out.fin,S.out.I,S.out.B,S.out.K⟩))
       ·rw [if_neg cx2] at H;have b3:decide (a3 < (rd_T52 l2 rc).f1)=false:=decide_eq_false cx2;clear z z' z0 z1 z2 c1 cx2;obtain ⟨ad,e_,_⟩:=at_T52 (S.out.vars HV.out _ (Kept.refl _ _)) _ x0 x1;cases e_;have X0:=Aside0.mk x0;have X1:=Aside0.mk x1;replace x0:=eq_true x0;replace x1:=eq_true x1
        cases kk with
        | zero=>cases H
        | succ kk =>
        have L2:=Aside0.mk (show kk≤k by have:=L0.out;omega);simp only [spec_l02Deep.j4] at H;obtain ⟨⟨la,na,p3,q3⟩,h_,H⟩:=Option.bind_eq_some_iff.1 H;have F1:=Aside0.mk h_;clear h_;dsimp only at H;obtain ⟨⟨lb,nb,p4,q4⟩,h_,H⟩:=Option.bind_eq_some_iff.1 H;have F2:=Aside0.mk h_;clear h_;dsimp only at H;obtain ⟨⟨rf,p6,q6⟩,h_,H⟩:=Option.bind_eq_some_iff.1 H;have B3:=Aside0.mk h_;clear h_;dsimp only at H;obtain ⟨⟨lg,ng⟩,h_,H⟩:=Option.bind_eq_some_iff.1 H;have G1:=Aside0.mk h_;clear h_;dsimp only at H;simp only [Option.some.injEq,Prod.mk.injEq] at H;obtain ⟨rfl,rfl,rfl,rfl⟩:=H;clear H
        (as_aux_lemma=>(go_wp2_with (first|(go_at_call 81;(try simp only [i64_w,i32_w]);(with_reducible refine (spec_l01Below.calls g s0_0 _ _ _ _ _ _ w0 _ S.out.I S.out.B (by first|exact B1.out|exact B2.out)).mono ?_);rintro e w' ⟨rfl,hi,hb,hk⟩;have S_:=Aside0.mk (S.out.cur hi hb hk);clear S;have S:=S_;clear S_;clear hi hb hk;obtain ⟨ad_,e_,hx0,hx1,hx2,hx3,hx4,hx5⟩:=at_T52 (S.out.vars HV.out _ (Kept.refl _ _)) _ X0.out X1.out;obtain rfl:ad=ad_:=(by injection e_);clear e_)|(go_at_call 81;(try simp only [i64_w,i32_w]);(with_reducible refine (spec_l01Below.calls g s0_0 _ _ _ _ _ _ w0 _ S.out.I S.out.B (by first|exact B1.out|exact B2.out|exact B3.out)).mono ?_);rintro e w' ⟨rfl,hi,hb,hk⟩;have S_:=Aside0.mk (S.out.cur hi hb hk);clear S;have S:=S_;clear S_;clear hi hb hk)|(go_at_call 83;(try simp only [i64_w,i32_w]);(with_reducible refine (ih kk (Nat.lt_succ_of_le (by first|exact L1.out|exact L2.out)) g s0_0 _ _ _ _ _ _ c2 l2 _ _ _ _ _ _ w0 _ S.out.I S.out.B S.out.T (S.out.vars HV.out) HC.out (by first|exact F1.out|exact F2.out|exact F3.out)).mono ?_);rintro e w' ⟨v_,rfl,ht,hi,hb,hk⟩;have S_:=Aside0.mk (S.out.deep ht hi hb hk);clear S;have S:=S_;clear S_;clear hi hb hk ht;obtain ⟨Ao_,co_,eo_⟩:=Kd.R_slice S.out.T;subst eo_)|(go_at_call 82;(try simp only [i64_w,i32_w]);(with_reducible refine (spec_l02Push.calls _ _ _ _ _ _ _ _ _ _ _ w0 _ S.out.B S.out.T (by first|exact G1.out)).mono ?_);rintro e w' ⟨v_,rfl,ht,hb,hk⟩;have S_:=Aside0.mk (S.out.push ht hb hk);clear S;have S:=S_;clear S_;clear hb hk ht));go_ret2;exact ⟨_,by first|rfl|(simp;done),S.out.fin,S.out.I,S.out.B,S.out.K⟩))
      ·rw [if_neg c1] at H;have b1:decide (0 < l2.length)=false:=decide_eq_false (by omega);have b2:decide (0 < (l2.length:Int))=false:=decide_eq_false c1;clear z z' z0 z1 z2 c1
       cases kk with
       | zero=>cases H
       | succ kk =>
       have L2:=Aside0.mk (show kk≤k by have:=L0.out;omega);simp only [spec_l02Deep.j4] at H;obtain ⟨⟨la,na,p3,q3⟩,h_,H⟩:=Option.bind_eq_some_iff.1 H;have F1:=Aside0.mk h_;clear h_;dsimp only at H;obtain ⟨⟨lb,nb,p4,q4⟩,h_,H⟩:=Option.bind_eq_some_iff.1 H;have F2:=Aside0.mk h_;clear h_;dsimp only at H;obtain ⟨⟨rf,p6,q6⟩,h_,H⟩:=Option.bind_eq_some_iff.1 H;have B3:=Aside0.mk h_;clear h_;dsimp only at H;obtain ⟨⟨lg,ng⟩,h_,H⟩:=Option.bind_eq_some_iff.1 H;have G1:=Aside0.mk h_;clear h_;dsimp only at H;simp only [Option.some.injEq,Prod.mk.injEq] at H;obtain ⟨rfl,rfl,rfl,rfl⟩:=H;clear H
       (as_aux_lemma=>(go_wp2_with (first|(go_at_call 81;(try simp only [i64_w,i32_w]);(with_reducible refine (spec_l01Below.calls g s0_0 _ _ _ _ _ _ w0 _ S.out.I S.out.B (by first|exact B1.out|exact B2.out|exact B3.out)).mono ?_);rintro e w' ⟨rfl,hi,hb,hk⟩;have S_:=Aside0.mk (S.out.cur hi hb hk);clear S;have S:=S_;clear S_;clear hi hb hk)|(go_at_call 83;(try simp only [i64_w,i32_w]);(with_reducible refine (ih kk (Nat.lt_succ_of_le (by first|exact L1.out|exact L2.out)) g s0_0 _ _ _ _ _ _ c2 l2 _ _ _ _ _ _ w0 _ S.out.I S.out.B S.out.T (S.out.vars HV.out) HC.out (by first|exact F1.out|exact F2.out|exact F3.out)).mono ?_);rintro e w' ⟨v_,rfl,ht,hi,hb,hk⟩;have S_:=Aside0.mk (S.out.deep ht hi hb hk);clear S;have S:=S_;clear S_;clear hi hb hk ht;obtain ⟨Ao_,co_,eo_⟩:=Kd.R_slice S.out.T;subst eo_)|(go_at_call 82;(try simp only [i64_w,i32_w]);(with_reducible refine (spec_l02Push.calls _ _ _ _ _ _ _ _ _ _ _ w0 _ S.out.B S.out.T (by first|exact G1.out)).mono ?_);rintro e w' ⟨v_,rfl,ht,hb,hk⟩;have S_:=Aside0.mk (S.out.push ht hb hk);clear S;have S:=S_;clear S_;clear hb hk ht));go_ret2;exact ⟨_,by first|rfl|(simp;done),S.out.fin,S.out.I,S.out.B,S.out.K⟩))
     rw [if_neg z2] at H;have ee2:=z' 2 z2
     by_cases z3:rb=3
     ·rw [if_pos z3] at H;have ee3:=z 3 z3;obtain ⟨⟨la,na,p3,q3⟩,h_,H⟩:=Option.bind_eq_some_iff.1 H;have F1:=Aside0.mk h_;clear h_;dsimp only at H;obtain ⟨⟨lb,nb,p4,q4⟩,h_,H⟩:=Option.bind_eq_some_iff.1 H;have F2:=Aside0.mk h_;clear h_;dsimp only at H;obtain ⟨⟨lc,nc,p5,q5⟩,h_,H⟩:=Option.bind_eq_some_iff.1 H;have F3:=Aside0.mk h_;clear h_;dsimp only at H;obtain ⟨⟨lg,ng⟩,h_,H⟩:=Option.bind_eq_some_iff.1 H;have G1:=Aside0.mk h_;clear h_;dsimp only at H;simp only [Option.some.injEq,Prod.mk.injEq] at H;obtain ⟨rfl,rfl,rfl,rfl⟩:=H;clear H z z' z0 z1 z2 z3
      (as_aux_lemma=>(go_wp2_with (first|(go_at_call 81;(try simp only [i64_w,i32_w]);(with_reducible refine (spec_l01Below.calls g s0_0 _ _ _ _ _ _ w0 _ S.out.I S.out.B (by first|exact B1.out|exact B2.out|exact B3.out)).mono ?_);rintro e w' ⟨rfl,hi,hb,hk⟩;have S_:=Aside0.mk (S.out.cur hi hb hk);clear S;have S:=S_;clear S_;clear hi hb hk)|(go_at_call 83;(try simp only [i64_w,i32_w]);(with_reducible refine (ih kk (Nat.lt_succ_of_le (by first|exact L1.out|exact L2.out)) g s0_0 _ _ _ _ _ _ c2 l2 _ _ _ _ _ _ w0 _ S.out.I S.out.B S.out.T (S.out.vars HV.out) HC.out (by first|exact F1.out|exact F2.out|exact F3.out)).mono ?_);rintro e w' ⟨v_,rfl,ht,hi,hb,hk⟩;have S_:=Aside0.mk (S.out.deep ht hi hb hk);clear S;have S:=S_;clear S_;clear hi hb hk ht;obtain ⟨Ao_,co_,eo_⟩:=Kd.R_slice S.out.T;subst eo_)|(go_at_call 82;(try simp only [i64_w,i32_w]);(with_reducible refine (spec_l02Push.calls _ _ _ _ _ _ _ _ _ _ _ w0 _ S.out.B S.out.T (by first|exact G1.out)).mono ?_);rintro e w' ⟨v_,rfl,ht,hb,hk⟩;have S_:=Aside0.mk (S.out.push ht hb hk);clear S;have S:=S_;clear S_;clear hb hk ht));go_ret2;exact ⟨_,by first|rfl|(simp;done),S.out.fin,S.out.I,S.out.B,S.out.K⟩))
     ·rw [if_neg z3] at H;have ee3:=z' 3 z3;clear z z' z0 z1 z2 z3
      cases kk with
      | zero=>cases H
      | succ kk =>
      have L2:=Aside0.mk (show kk≤k by have:=L0.out;omega);simp only [spec_l02Deep.j4] at H;obtain ⟨⟨la,na,p3,q3⟩,h_,H⟩:=Option.bind_eq_some_iff.1 H;have F1:=Aside0.mk h_;clear h_;dsimp only at H;obtain ⟨⟨lb,nb,p4,q4⟩,h_,H⟩:=Option.bind_eq_some_iff.1 H;have F2:=Aside0.mk h_;clear h_;dsimp only at H;obtain ⟨⟨rf,p6,q6⟩,h_,H⟩:=Option.bind_eq_some_iff.1 H;have B3:=Aside0.mk h_;clear h_;dsimp only at H;obtain ⟨⟨lg,ng⟩,h_,H⟩:=Option.bind_eq_some_iff.1 H;have G1:=Aside0.mk h_;clear h_;dsimp only at H;simp only [Option.some.injEq,Prod.mk.injEq] at H;obtain ⟨rfl,rfl,rfl,rfl⟩:=H;clear H
      (as_aux_lemma=>(go_wp2_with (first|(go_at_call 81;(try simp only [i64_w,i32_w]);(with_reducible refine (spec_l01Below.calls g s0_0 _ _ _ _ _ _ w0 _ S.out.I S.out.B (by first|exact B1.out|exact B2.out|exact B3.out)).mono ?_);rintro e w' ⟨rfl,hi,hb,hk⟩;have S_:=Aside0.mk (S.out.cur hi hb hk);clear S;have S:=S_;clear S_;clear hi hb hk)|(go_at_call 83;(try simp only [i64_w,i32_w]);(with_reducible refine (ih kk (Nat.lt_succ_of_le (by first|exact L1.out|exact L2.out)) g s0_0 _ _ _ _ _ _ c2 l2 _ _ _ _ _ _ w0 _ S.out.I S.out.B S.out.T (S.out.vars HV.out) HC.out (by first|exact F1.out|exact F2.out|exact F3.out)).mono ?_);rintro e w' ⟨v_,rfl,ht,hi,hb,hk⟩;have S_:=Aside0.mk (S.out.deep ht hi hb hk);clear S;have S:=S_;clear S_;clear hi hb hk ht;obtain ⟨Ao_,co_,eo_⟩:=Kd.R_slice S.out.T;subst eo_)|(go_at_call 82;(try simp only [i64_w,i32_w]);(with_reducible refine (spec_l02Push.calls _ _ _ _ _ _ _ _ _ _ _ w0 _ S.out.B S.out.T (by first|exact G1.out)).mono ?_);rintro e w' ⟨v_,rfl,ht,hb,hk⟩;have S_:=Aside0.mk (S.out.push ht hb hk);clear S;have S:=S_;clear S_;clear hb hk ht));go_ret2;exact ⟨_,by first|rfl|(simp;done),S.out.fin,S.out.I,S.out.B,S.out.K⟩))
end Go.Proofs.YthipjoioicmcnaaGreat.G
