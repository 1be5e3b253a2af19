-- texts of this session, merged by a program of it (wip/gen/pack.py)
import Derived.Test.YthipjoioicmcnaaKFnDecide1
import Derived.Test.YthipjoioicmcnaaKFnDecide3
import Derived.Test.YthipjoioicmcnaaKFnDecide2
import Derived.Laws.BitsLemmas
set_option linter.unusedVariables false
set_option linter.unusedSimpArgs false
set_option maxHeartbeats 80000000
set_option maxRecDepth 100000
namespace Go.Proofs.Ythipjoioicmcnaa.G
open Go.RowKit Go.Proofs.YthipjoioicmcnaaW.PrintWords Go.Proofs.YthipjoioicmcnaaW.PrintLast Go.Proofs.YthipjoioicmcnaaW.PrintMore Go.Proofs.Ythipjoioicmcnaa.Sh
attribute [local go_sem] dP dR eA eB dB dC dQ dS
mutual
def bM.l0:Nat→List (bL)→List Bool→Int→Option (List Bool)
 | 0,_,_,_=>none
 | k + 1,x0,x3,x4=>if x4 < (x0.length:Int) then (if 0≤x4 then ((bP.f ((aC x0 x4).f0)).bind fun Aa=>((cG.f k ((aC x0 x4).f0) ((aC x0 x4).f1) ((aC x0 x4).f2) ((aC x0 x4).f3) ((aC x0 x4).f4) ((aC x0 x4).f5)).bind fun A3=>(bM.l1 k x0 x3 x4 Aa A3 0))) else (none)) else (some x3)
def bM.l1:Nat→List (bL)→List Bool→Int→Bool→List Int→Int→Option (List Bool)
 | 0,_,_,_,_,_,_=>none
 | k + 1,x0,x3,x4,x5,x6,x7=>if x7 < (x6.length:Int) then (if x5=true then (bM.l1 k x0 x3 x4 true x6 (wrap64 (x7 + 1))) else (if 0≤x7 then (if 0≤(rd x6 x7) then (if (rd x6 x7) < (x3.length:Int) then (bM.l1 k x0 x3 x4 (cL false x3 (rd x6 x7)) x6 (wrap64 (x7 + 1))) else (none)) else (none)) else (none))) else (if x3.length < 140737488355328 then (bM.l0 k x0 (x3 ++ [x5]) (wrap64 (x4 + 1))) else (none))
end
def bM.f (k:Nat) (l0:List (bL)):Option (List Bool):=bM.l0 k l0 (([]:List Bool)) 0
theorem bM.calls (k:Nat) (A0:Option Addr) (c0:Nat) (l0:List (bL)) (r:List Bool) (w:World) (hr0:Kd.C fL w A0 l0.length l0) (hc0:l0.length≤c0) (h:bM.f k l0=some r) :
  Calls Try.prog 98 #[.slice A0 l0.length c0] w fun e w'=>∃ v0_:Value,e = .returned (v0_)∧Kd.R Kd.bool 4 w' w.heap.size (fun _=>True) v0_ r∧Below w.heap.size w w':=by
 have hu99:=Try.underlying99;have HR0:=aA.mk hr0;have HC0:=aA.mk hc0;clear hr0 hc0;have HB:=aA.mk (Below.refl w.heap.size w);have H:(bM.l0 k l0 (([]:List Bool)) 0)=some r:=h;clear h;obtain ⟨y101,hy101⟩:∃ y_:List Bool,y_=(([]:List Bool)):=⟨_,rfl⟩;replace H:(bM.l0 k l0 y101 0)=some r:=gQ hy101 H;have Ny101:=aA.mk hy101;clear hy101;have H':=aA.mk H;clear H
 go_enter Try.func98,Try.ntmps98
 go_wp2_with (first|((with_reducible refine bF (N:=8) rfl ?_);refine Kd.R_lit Kd.bool _ 4 ?hg (N:=8) ?hd (xs:=([]:List Bool)) (inner:=[]) (ok:=fun _=>True) (okp:=fun _=>True) ?hr ?hp (fun _ hk=>hk) trivial (Below.refl _ _) (Nat.le_refl _) (by simp) ?_;(case hd=>rfl);(case hg=>rfl);(case hr=>first|(go_simp;done)|(go_simp;rfl));(case hp=>exact (cQ.none _ _));intro v102 w2 ho3 hb hg_ hnew_;clear hg_ hnew_;(first|rw [← Ny101.out] at ho3|(simp only [Int.reduceToNat] at ho3;rw [← Ny101.out] at ho3));have Ab:=aA.mk (Kd.R_lower ho3 (aG (tb HB)));replace HB:=aA.mk (aE (tb HB) hb);clear hb ho3))
 go_loopg [3,4] k (fun kq v3 v4 w'=>∃ (A4:List Bool) (A1:Int),v4 = .int .i64 A1∧aA (bM.l0 kq l0 A4 A1=some r)∧aA (kq≤k)∧aA (Kd.R Kd.bool 4 w' w.heap.size (fun _=>True) v3 A4)∧aA (Below w.heap.size w w'))
 case atStart=>exact ⟨(y101),(0),(by first|rfl|(simp;done)|(simp [*];done)),H',⟨Nat.le_refl _⟩,⟨ra Ab⟩,⟨by exact tb HB⟩⟩
 case round =>
  clear H';obtain ⟨A4,A1,rfl,HA,HK1,A5,HB⟩:=hrel
  cases gk with
  | zero=>exact absurd HA.out (by simp [bM.l0])
  | succ k1 =>
   have H:=HA.out;clear HA;simp only [bM.l0] at H
   by_cases c4:A1 < (l0.length:Int)
   ·rw [if_pos c4] at H;have c4b0:decide (A1 < (l0.length:Int))=true:=decide_eq_true c4;clear c4
    by_cases c5:0≤A1
    ·rw [if_pos c5] at H;have c5b0:decide (0≤A1)=true:=decide_eq_true c5;clear c5;replace H:=ob H;obtain ⟨Aa,A60,H⟩:=H
     try dsimp only at H
     have A6:=aA.mk A60;clear A60;replace H:=ob H;obtain ⟨A3,A70,H⟩:=H;replace H:(bM.l1 k1 l0 A4 A1 Aa A3 0)=some r:=H;have A7:=aA.mk A70;clear A70;have H':=aA.mk H;clear H;have p104:0≤(A1:Int):=od;have q104:A1 < (l0.length:Int):=od;obtain ⟨ad104,e104,hx104_0,hx104_1,hx104_2,hx104_3,hx104_4,hx104_5⟩:=dV HR0.out A1 p104 q104;cases e104;replace hx104_0:=ct HB hx104_0;replace hx104_1:=ct HB hx104_1;replace hx104_2:=ct HB hx104_2;replace hx104_3:=ct HB hx104_3;replace hx104_4:=ct HB hx104_4;replace hx104_5:=ct HB hx104_5;replace p104:=eq_true p104;replace q104:=eq_true q104;go_wp2_with (first|((with_reducible refine aD (f:=103) rfl ?_);refine aI (some 20) rfl rfl Try.func103 (by kernel_rfl) rfl #[.int .i64 ((aC l0 A1).f0)] rfl ml ?_;(with_reducible refine (bP.calls ((aC l0 A1).f0) Aa _ A6.out).mono ?_);rintro e w' ⟨rfl,⟨nd,rfl⟩⟩;refine ⟨_,rfl,?_⟩;have p106:0≤(A1:Int):=od;have q106:A1 < (l0.length:Int):=od;obtain ⟨ad106,e106,hx106_0,hx106_1,hx106_2,hx106_3,hx106_4,hx106_5⟩:=dV HR0.out A1 p106 q106;obtain rfl:ad104=ad106:=(by injection e106);replace hx106_0:=ct HB hx106_0;replace hx106_1:=ct HB hx106_1;replace hx106_2:=ct HB hx106_2;replace hx106_3:=ct HB hx106_3;replace hx106_4:=ct HB hx106_4;replace hx106_5:=ct HB hx106_5;replace p106:=eq_true p106;replace q106:=eq_true q106)|((with_reducible refine aD (f:=99) rfl ?_);refine aI (some 25) rfl rfl Try.func99 (by kernel_rfl) rfl #[.agg #[.int .i64 ((aC l0 A1).f0),.int .i64 ((aC l0 A1).f1),.int .i64 ((aC l0 A1).f2),.int .i64 ((aC l0 A1).f3),.int .i64 ((aC l0 A1).f4),.int .i64 ((aC l0 A1).f5)]] rfl ml ?_;(with_reducible refine (cG.calls k1 ((aC l0 A1).f0) ((aC l0 A1).f1) ((aC l0 A1).f2) ((aC l0 A1).f3) ((aC l0 A1).f4) ((aC l0 A1).f5) A3 _ A7.out).mono ?_);rintro e w8 ⟨v108,rfl,ho0,hb⟩;refine ⟨_,rfl,?_⟩;replace A5:=aA.mk (Kd.R_below (ra A5) hb);have Ac:=aA.mk (Kd.R_lower ho0 (aG (tb HB)));replace HB:=aA.mk (aE (tb HB) hb);(try clear hb);(try clear hb2);(try clear hk);(try clear hi);(try clear ho0)))
     go_loopg [5,7] k1 (fun kq v5 v7 w'=>∃ (A9:Bool) (A2:Int),v5 = .bool A9∧v7 = .int .i64 A2∧aA (bM.l1 kq l0 A4 A1 A9 A3 A2=some r)∧aA (kq≤k1)∧aA (Kd.R Kd.bool 4 w' w.heap.size (fun _=>True) u3 A4)∧aA (Kd.R (Kd.int .i64) 3 w' w.heap.size (fun _=>True) v108 A3)∧aA (Below w.heap.size w w'))
     case atStart=>exact ⟨(Aa),(0),(by first|rfl|(simp;done)|(simp [*];done)),(by first|rfl|(simp;done)|(simp [*];done)),H',⟨Nat.le_refl _⟩,⟨ra A5⟩,⟨ra Ac⟩,⟨by exact tb HB⟩⟩
     case round =>
      clear H';obtain ⟨A9,A2,rfl,rfl,HA,HK2,A5,A8,HB⟩:=hrel
      cases gk with
      | zero=>exact absurd HA.out (by simp [bM.l1])
      | succ k2 =>
       have H:=HA.out;clear HA;simp only [bM.l1] at H
       by_cases c9:A2 < (A3.length:Int)
       ·rw [if_pos c9] at H;have c9b0:decide (A2 < (A3.length:Int))=true:=decide_eq_true c9;clear c9
        by_cases c10:A9=true
        ·subst c10
         have H1:(bM.l1 k2 l0 A4 A1 true A3 (wrap64 (A2 + 1)))=some r:=by rw [if_pos rfl] at H;exact H
         clear H;have H:=H1;clear H1;have H':=aA.mk H;clear H;obtain ⟨Ao11,co11,eo11⟩:=Kd.R_slice A8.out;subst eo11;go_wp2;go_roundg k2
         case measure=>have:=HK1.out;have:=HK2.out;omega
         case rel=>exact ⟨(true),(wrap64 (A2 + 1)),(by first|rfl|(simp;done)|(simp [*];done)),(by first|rfl|(simp;done)|(simp [*];done)),H',⟨by have:=HK1.out;have:=HK2.out;omega⟩,⟨ra A5⟩,⟨ra A8⟩,⟨by exact tb HB⟩⟩
        ·replace c10:=Bool.eq_false_iff.mpr c10;subst c10
         have H1:(if 0≤A2 then (if 0≤(rd A3 A2) then (if (rd A3 A2) < (A4.length:Int) then (bM.l1 k2 l0 A4 A1 (cL false A4 (rd A3 A2)) A3 (wrap64 (A2 + 1))) else (none)) else (none)) else (none))=some r:=by rw [if_neg (show ¬ (false=true) by decide)] at H;exact H
         clear H;have H:=H1;clear H1
         by_cases c12:0≤A2
         ·rw [if_pos c12] at H;have c12b0:decide (0≤A2)=true:=decide_eq_true c12;clear c12
          by_cases c13:0≤(rd A3 A2)
          ·rw [if_pos c13] at H;have c13b0:decide (0≤(rd A3 A2))=true:=decide_eq_true c13;clear c13
           by_cases c14:(rd A3 A2) < (A4.length:Int)
           ·rw [if_pos c14] at H;have c14b0:decide ((rd A3 A2) < (A4.length:Int))=true:=decide_eq_true c14;clear c14;have H':=aA.mk H;clear H;obtain ⟨Ao15,co15,eo15⟩:=Kd.R_slice A8.out;subst eo15;have p110:0≤(A2:Int):=od;have q110:A2 < (A3.length:Int):=od;obtain ⟨ad110,e110,hx110_0⟩:=Kd.at_int (Kd.R_reads' A8.out).2.2 A2 p110 q110;cases e110;replace p110:=eq_true p110;replace q110:=eq_true q110;obtain ⟨Ao16,co16,eo16⟩:=Kd.R_slice A5.out;subst eo16;have p111:0≤((rd A3 A2):Int):=od;have q111:(rd A3 A2) < (A4.length:Int):=od;obtain ⟨ad111,e111,hx111_0⟩:=Kd.at_bool (Kd.R_reads' A5.out).2.2 (rd A3 A2) p111 q111;cases e111;replace p111:=eq_true p111;replace q111:=eq_true q111;go_wp2;go_roundg k2
            case measure=>have:=HK1.out;have:=HK2.out;omega
            case rel=>exact ⟨(cL false A4 (rd A3 A2)),(wrap64 (A2 + 1)),(by first|rfl|(simp;done)|(simp [*];done)),(by first|rfl|(simp;done)|(simp [*];done)),H',⟨by have:=HK1.out;have:=HK2.out;omega⟩,⟨ra A5⟩,⟨ra A8⟩,⟨by exact tb HB⟩⟩
           ·rw [if_neg c14] at H;exact absurd H (by simp)
          ·rw [if_neg c13] at H;exact absurd H (by simp)
         ·rw [if_neg c12] at H;exact absurd H (by simp)
       ·rw [if_neg c9] at H;have c9b0:decide (A2 < (A3.length:Int))=false:=decide_eq_false c9;clear c9
        by_cases c17:A4.length < 140737488355328
        ·rw [if_pos c17] at H;have LMc17:=aA.mk c17;clear c17;obtain ⟨y112,hy112⟩:∃ y_:List Bool,y_=(A4 ++ [A9]):=⟨_,rfl⟩;replace H:(bM.l0 k2 l0 y112 (wrap64 (A1 + 1)))=some r:=gQ hy112 H;have Ny112:=aA.mk hy112;clear hy112;have H':=aA.mk H;clear H;obtain ⟨Ao18,co18,eo18⟩:=Kd.R_slice A8.out;subst eo18;go_wp2_with (first|((with_reducible refine cD (b := .append) (xs:=#[.tmp 42,.tmp 44]) rfl ?_);at_builtin;refine Kd.R_append Kd.bool (w0:=w) w.heap.size rfl (.tmp 42) (.tmp 44) 24 4 (.bool false) 1 rfl Try.underlying24 iY rfl (by decide) (by omega) u3 A4 A9 [.bool A9] (fun _=>True) (fun _=>False) rfl rfl ?aP (fun _ hk=>hk.elim) ?aF ?aO ?aB ?aS ?aL ?_;(case aP=>exact rfl);(case aB=>exact (tb HB));(case aF=>exact (fun _ _=>trivial));(case aO=>exact (ra A5));(case aS=>exact (aG (tb HB)));(case aL=>have:=LMc17.out;omega);intro v113 w19 ho hb hg hat;rw [← Ny112.out] at ho;replace A8:=aA.mk (Kd.R_over' (ra A8) (Kd.R_typed (ra A5)) (by decide) hg);replace HB:=aA.mk (hb);have Ad:=aA.mk (ho);clear A5;clear ho hb hg hat));go_roundg k2
         case measure=>have:=HK1.out;have:=HK2.out;omega
         case rel=>exact ⟨(y112),(wrap64 (A1 + 1)),(by first|rfl|(simp;done)|(simp [*];done)),H',⟨by have:=HK1.out;have:=HK2.out;omega⟩,⟨ra Ad⟩,⟨by exact tb HB⟩⟩
        ·rw [if_neg c17] at H;exact absurd H (by simp)
    ·rw [if_neg c5] at H;exact absurd H (by simp)
   ·rw [if_neg c4] at H;have c4b0:decide (A1 < (l0.length:Int))=false:=decide_eq_false c4;clear c4;obtain rfl:=os H;go_wp2;go_ret;exact ⟨_,er,ra A5,tb HB⟩
mutual
def bH.l0:Nat→List (bL)→List Bool→Int→Option (List Bool)
 | 0,_,_,_=>none
 | k + 1,x0,x3,x4=>if x4 < (x0.length:Int) then (if x3.length < 140737488355328 then (bH.l0 k x0 (x3 ++ [(x4 == (wrap64 ((x0.length:Int) - 1)))]) (wrap64 (x4 + 1))) else (none)) else (bH.l1 k x0 x3 (wrap64 ((x0.length:Int) - 1)))
def bH.l1:Nat→List (bL)→List Bool→Int→Option (List Bool)
 | 0,_,_,_=>none
 | k + 1,x0,x3,x5=>if x5 ≥ 0 then (if 0≤x5 then (if x5 < (x0.length:Int) then ((cG.f k ((aC x0 x5).f0) ((aC x0 x5).f1) ((aC x0 x5).f2) ((aC x0 x5).f3) ((aC x0 x5).f4) ((aC x0 x5).f5)).bind fun A3=>(bH.l2 k x0 x3 x5 A3 0)) else (none)) else (none)) else (some x3)
def bH.l2:Nat→List (bL)→List Bool→Int→List Int→Int→Option (List Bool)
 | 0,_,_,_,_,_=>none
 | k + 1,x0,x3,x5,x6,x7=>if x7 < (x6.length:Int) then (if 0≤x5 then (if x5 < (x3.length:Int) then (if cL false x3 x5=true then (if 0≤x7 then (if 0≤(rd x6 x7) then (if (rd x6 x7) < (x3.length:Int) then (bH.l2 k x0 (x3.set ((rd x6 x7):Int).toNat true) x5 x6 (wrap64 (x7 + 1))) else (none)) else (none)) else (none)) else (bH.l1 k x0 x3 (wrap64 (x5 - 1)))) else (none)) else (none)) else (bH.l1 k x0 x3 (wrap64 (x5 - 1)))
end
def bH.f (k:Nat) (l0:List (bL)):Option (List Bool):=bH.l0 k l0 (([]:List Bool)) 0
theorem bH.calls (k:Nat) (A0:Option Addr) (c0:Nat) (l0:List (bL)) (r:List Bool) (w:World) (hr0:Kd.C fL w A0 l0.length l0) (hc0:l0.length≤c0) (h:bH.f k l0=some r) :
  Calls Try.prog 102 #[.slice A0 l0.length c0] w fun e w'=>∃ v0_:Value,e = .returned (v0_)∧Kd.R Kd.bool 4 w' w.heap.size (fun _=>True) v0_ r∧Below w.heap.size w w':=by
 have hu99:=Try.underlying99;have HR0:=aA.mk hr0;have HC0:=aA.mk hc0;clear hr0 hc0;have HB:=aA.mk (Below.refl w.heap.size w);have H:(bH.l0 k l0 (([]:List Bool)) 0)=some r:=h;clear h;obtain ⟨y101,hy101⟩:∃ y_:List Bool,y_=(([]:List Bool)):=⟨_,rfl⟩;replace H:(bH.l0 k l0 y101 0)=some r:=gQ hy101 H;have Ny101:=aA.mk hy101;clear hy101;have H':=aA.mk H;clear H
 go_enter Try.func102,Try.ntmps102
 go_wp2_with (first|((with_reducible refine bF (N:=8) rfl ?_);refine Kd.R_lit Kd.bool _ 4 ?hg (N:=8) ?hd (xs:=([]:List Bool)) (inner:=[]) (ok:=fun _=>True) (okp:=fun _=>True) ?hr ?hp (fun _ hk=>hk) trivial (Below.refl _ _) (Nat.le_refl _) (by simp) ?_;(case hd=>rfl);(case hg=>rfl);(case hr=>first|(go_simp;done)|(go_simp;rfl));(case hp=>exact (cQ.none _ _));intro v102 w2 ho3 hb hg_ hnew_;clear hg_ hnew_;(first|rw [← Ny101.out] at ho3|(simp only [Int.reduceToNat] at ho3;rw [← Ny101.out] at ho3));have Aa:=aA.mk (Kd.R_lower ho3 (aG (tb HB)));replace HB:=aA.mk (aE (tb HB) hb);clear hb ho3))
 go_loopg [3,4] k (fun kq v3 v4 w'=>∃ (A7:List Bool) (A6:Int),v4 = .int .i64 A6∧aA (bH.l0 kq l0 A7 A6=some r)∧aA (kq≤k)∧aA (Kd.R Kd.bool 4 w' w.heap.size (fun _=>True) v3 A7)∧aA (Below w.heap.size w w'))
 case atStart=>exact ⟨(y101),(0),(by first|rfl|(simp;done)|(simp [*];done)),H',⟨Nat.le_refl _⟩,⟨ra Aa⟩,⟨by exact tb HB⟩⟩
 case round =>
  clear H';obtain ⟨A7,A6,rfl,HA,HK1,A5,HB⟩:=hrel
  cases gk with
  | zero=>exact absurd HA.out (by simp [bH.l0])
  | succ k1 =>
   have H:=HA.out;clear HA;simp only [bH.l0] at H
   by_cases c4:A6 < (l0.length:Int)
   ·rw [if_pos c4] at H;have c4b0:decide (A6 < (l0.length:Int))=true:=decide_eq_true c4;clear c4
    by_cases c5:A7.length < 140737488355328
    ·rw [if_pos c5] at H;have LMc5:=aA.mk c5;clear c5;obtain ⟨y104,hy104⟩:∃ y_:List Bool,y_=(A7 ++ [(A6 == (wrap64 ((l0.length:Int) - 1)))]):=⟨_,rfl⟩;replace H:(bH.l0 k1 l0 y104 (wrap64 (A6 + 1)))=some r:=gQ hy104 H;have Ny104:=aA.mk hy104;clear hy104;have H':=aA.mk H;clear H;go_wp2_with (first|((with_reducible refine cD (b := .append) (xs:=#[.tmp 15,.tmp 21]) rfl ?_);at_builtin;refine Kd.R_append Kd.bool (w0:=w) w.heap.size rfl (.tmp 15) (.tmp 21) 24 4 (.bool false) 1 rfl Try.underlying24 iY rfl (by decide) (by omega) u3 A7 (A6 == (wrap64 ((l0.length:Int) - 1))) [.bool (A6 == (wrap64 ((l0.length:Int) - 1)))] (fun _=>True) (fun _=>False) rfl rfl ?aP (fun _ hk=>hk.elim) ?aF ?aO ?aB ?aS ?aL ?_;(case aP=>exact rfl);(case aB=>exact (tb HB));(case aF=>exact (fun _ _=>trivial));(case aO=>exact (ra A5));(case aS=>exact (aG (tb HB)));(case aL=>have:=LMc5.out;omega);intro v105 w6 ho hb hg hat;rw [← Ny104.out] at ho;replace HB:=aA.mk (hb);have Ab:=aA.mk (ho);clear A5;clear ho hb hg hat));go_roundg k1
     case measure=>have:=HK1.out;omega
     case rel=>exact ⟨(y104),(wrap64 (A6 + 1)),(by first|rfl|(simp;done)|(simp [*];done)),H',⟨by have:=HK1.out;omega⟩,⟨ra Ab⟩,⟨by exact tb HB⟩⟩
    ·rw [if_neg c5] at H;exact absurd H (by simp)
   ·rw [if_neg c4] at H;have c4b0:decide (A6 < (l0.length:Int))=false:=decide_eq_false c4;clear c4;have H':=aA.mk H;clear H;go_wp2
    go_loopg [5] k1 (fun kq v5 w'=>∃ (A9:List Bool) (A1:Int),v5 = .int .i64 A1∧aA (bH.l1 kq l0 A9 A1=some r)∧aA (kq≤k1)∧aA (Kd.R Kd.bool 4 w' w.heap.size (fun _=>True) u3 A9)∧aA (Below w.heap.size w w'))
    case atStart=>exact ⟨(A7),(wrap64 ((l0.length:Int) - 1)),(by first|rfl|(simp;done)|(simp [*];done)),H',⟨Nat.le_refl _⟩,⟨ra A5⟩,⟨by exact tb HB⟩⟩
    case round =>
     clear H';obtain ⟨A9,A1,rfl,HA,HK2,A5,HB⟩:=hrel
     cases gk with
     | zero=>exact absurd HA.out (by simp [bH.l1])
     | succ k2 =>
      have H:=HA.out;clear HA;simp only [bH.l1] at H
      by_cases c7:A1 ≥ 0
      ·rw [if_pos c7] at H;have c7b0:decide (0≤A1)=true:=decide_eq_true c7;clear c7
       by_cases c8:0≤A1
       ·rw [if_pos c8] at H;have c8b0:decide (0≤A1)=true:=decide_eq_true c8;clear c8
        by_cases c9:A1 < (l0.length:Int)
        ·rw [if_pos c9] at H;have c9b0:decide (A1 < (l0.length:Int))=true:=decide_eq_true c9;clear c9;replace H:=ob H;obtain ⟨A3,A100,H⟩:=H;replace H:(bH.l2 k2 l0 A9 A1 A3 0)=some r:=H;have A10:=aA.mk A100;clear A100;have H':=aA.mk H;clear H;have p107:0≤(A1:Int):=od;have q107:A1 < (l0.length:Int):=od;obtain ⟨ad107,e107,hx107_0,hx107_1,hx107_2,hx107_3,hx107_4,hx107_5⟩:=dV HR0.out A1 p107 q107;cases e107;replace hx107_0:=ct HB hx107_0;replace hx107_1:=ct HB hx107_1;replace hx107_2:=ct HB hx107_2;replace hx107_3:=ct HB hx107_3;replace hx107_4:=ct HB hx107_4;replace hx107_5:=ct HB hx107_5;replace p107:=eq_true p107;replace q107:=eq_true q107;go_wp2_with (first|((with_reducible refine aD (f:=99) rfl ?_);refine aI (some 34) rfl rfl Try.func99 (by kernel_rfl) rfl #[.agg #[.int .i64 ((aC l0 A1).f0),.int .i64 ((aC l0 A1).f1),.int .i64 ((aC l0 A1).f2),.int .i64 ((aC l0 A1).f3),.int .i64 ((aC l0 A1).f4),.int .i64 ((aC l0 A1).f5)]] rfl ml ?_;(with_reducible refine (cG.calls k2 ((aC l0 A1).f0) ((aC l0 A1).f1) ((aC l0 A1).f2) ((aC l0 A1).f3) ((aC l0 A1).f4) ((aC l0 A1).f5) A3 _ A10.out).mono ?_);rintro e w11 ⟨v109,rfl,ho0,hb⟩;refine ⟨_,rfl,?_⟩;replace A5:=aA.mk (Kd.R_below (ra A5) hb);have Ac:=aA.mk (Kd.R_lower ho0 (aG (tb HB)));replace HB:=aA.mk (aE (tb HB) hb);(try clear hb);(try clear hb2);(try clear hk);(try clear hi);(try clear ho0)))
         go_loopg [7] k2 (fun kq v7 w'=>∃ (A4:List Bool) (A2:Int),v7 = .int .i64 A2∧aA (bH.l2 kq l0 A4 A1 A3 A2=some r)∧aA (kq≤k2)∧aA (Kd.R Kd.bool 4 w' w.heap.size (fun _=>True) u3 A4)∧aA (Kd.R (Kd.int .i64) 3 w' w.heap.size (fun _=>True) v109 A3)∧aA (Below w.heap.size w w'))
         case atStart=>exact ⟨(A9),(0),(by first|rfl|(simp;done)|(simp [*];done)),H',⟨Nat.le_refl _⟩,⟨ra A5⟩,⟨ra Ac⟩,⟨by exact tb HB⟩⟩
         case round =>
          clear H';obtain ⟨A4,A2,rfl,HA,HK3,A5,A8,HB⟩:=hrel
          cases gk with
          | zero=>exact absurd HA.out (by simp [bH.l2])
          | succ k3 =>
           have H:=HA.out;clear HA;simp only [bH.l2] at H
           by_cases c12:A2 < (A3.length:Int)
           ·rw [if_pos c12] at H;have c12b0:decide (A2 < (A3.length:Int))=true:=decide_eq_true c12;clear c12
            by_cases c13:0≤A1
            ·rw [if_pos c13] at H;have c13b0:decide (0≤A1)=true:=decide_eq_true c13;clear c13
             by_cases c14:A1 < (A4.length:Int)
             ·rw [if_pos c14] at H;have c14b0:decide (A1 < (A4.length:Int))=true:=decide_eq_true c14;clear c14;obtain ⟨bq15,hbq15⟩:∃ b_:Bool,b_=(cL false A4 A1):=⟨_,rfl⟩
              replace H:(if bq15=true then (if 0≤A2 then (if 0≤(rd A3 A2) then (if (rd A3 A2) < (A4.length:Int) then (bH.l2 k3 l0 (A4.set ((rd A3 A2):Int).toNat true) A1 A3 (wrap64 (A2 + 1))) else (none)) else (none)) else (none)) else (bH.l1 k3 l0 A4 (wrap64 (A1 - 1))))=some r:=by rw [← hbq15] at H;exact H
              have Nbq15:=aA.mk hbq15;clear hbq15
              by_cases c16:bq15=true
              ·subst c16
               have H1:(if 0≤A2 then (if 0≤(rd A3 A2) then (if (rd A3 A2) < (A4.length:Int) then (bH.l2 k3 l0 (A4.set ((rd A3 A2):Int).toNat true) A1 A3 (wrap64 (A2 + 1))) else (none)) else (none)) else (none))=some r:=by rw [if_pos rfl] at H;exact H
               clear H;have H:=H1;clear H1
               by_cases c17:0≤A2
               ·rw [if_pos c17] at H;have c17b0:decide (0≤A2)=true:=decide_eq_true c17;clear c17
                by_cases c18:0≤(rd A3 A2)
                ·rw [if_pos c18] at H;have c18b0:decide (0≤(rd A3 A2))=true:=decide_eq_true c18;clear c18
                 by_cases c19:(rd A3 A2) < (A4.length:Int)
                 ·rw [if_pos c19] at H;have c19b0:decide ((rd A3 A2) < (A4.length:Int))=true:=decide_eq_true c19;clear c19;obtain ⟨y113,hy113⟩:∃ y_:List Bool,y_=(A4.set ((rd A3 A2):Int).toNat true):=⟨_,rfl⟩;replace H:(bH.l2 k3 l0 y113 A1 A3 (wrap64 (A2 + 1)))=some r:=gQ hy113 H;have Ny113:=aA.mk hy113;clear hy113;have H':=aA.mk H;clear H;obtain ⟨Ao21,co21,eo21⟩:=Kd.R_slice A8.out;subst eo21;obtain ⟨Ao22,Ad,eo22⟩:=Kd.R_slice A5.out;subst eo22;have p111:0≤(A1:Int):=od;have q111:A1 < (A4.length:Int):=od;obtain ⟨ad111,e111,hx111_0⟩:=Kd.at_bool (Kd.R_reads' A5.out).2.2 A1 p111 q111
                  (try rw [← Nbq15.out] at hx111_0)
                  cases e111;replace p111:=eq_true p111;replace q111:=eq_true q111;have p112:0≤(A2:Int):=od;have q112:A2 < (A3.length:Int):=od;obtain ⟨ad112,e112,hx112_0⟩:=Kd.at_int (Kd.R_reads' A8.out).2.2 A2 p112 q112;cases e112;replace p112:=eq_true p112;replace q112:=eq_true q112;have p20:0≤((rd A3 A2):Int):=od;have q20:((rd A3 A2):Int) < ((A4.length:Int):Int):=od;obtain ⟨go20,co20,eo20,Ae,gl20,cl20,HG20⟩:=Kd.R_form A5.out (by omega);(first|cases eo20|(injection eo20 with ea_ en_ ec_;(first|subst ea_|(injection ea_ with ea_;subst ea_));subst ec_;clear en_));have GB20:=aA.mk Ae;have GG20:=aA.mk HG20;clear Ae gl20 HG20;(first|simp only [add_plain] at hx111_0|skip);obtain ⟨hx20_0,hf20_0⟩:=Kd.R_celln false A5.out ((rd A3 A2):Int) p20 q20;replace p20:=eq_true p20;replace q20:=eq_true q20;have HP23:=Kd.R_putg A5.out ((rd A3 A2):Int) true;go_wp2_with (first|((with_reducible refine mD (t:=4) (p:=52) rfl ?_);refine lJ (t:=4) (p:=52) (v:=?vo_w24) (w1:=(wr.setCell ⟨go20,((rd A3 A2):Int).toNat,none⟩ (.bool true))) ?hg ?ho ?hn ?hr ?_;(case ho=>rfl);(case hg=>rfl);(case hn=>rfl);(case hr=>first|(go_simp;done)|(go_simp;rfl));intro w24 hw;have hg:wr.grownBy w24 (some go20):=(by rw [hw];exact HP23.2);have hp_:Kd.R Kd.bool 4 w24 w.heap.size (fun _=>True) (.slice (some ⟨go20,0,none⟩) A4.length Ad) y113:=(by rw [hw,Ny113.out];exact HP23.1);clear HP23;replace A8:=aA.mk (Kd.R_over' (v:=(.slice (some ⟨go20,0,none⟩) A4.length Ad)) (ra A8) (Kd.R_typed A5.out) (by decide) hg);replace A5:=aA.mk (hp_);replace HB:=aA.mk ((by rw [hw];exact cM (HB.out) GB20.out:Below w.heap.size w w24));clear hg hw hp_));go_roundg k3
                  case measure=>have:=HK1.out;have:=HK2.out;have:=HK3.out;omega
                  case rel=>exact ⟨(y113),(wrap64 (A2 + 1)),(by first|rfl|(simp;done)|(simp [*];done)),H',⟨by have:=HK1.out;have:=HK2.out;have:=HK3.out;omega⟩,⟨ra A5⟩,⟨ra A8⟩,⟨by exact tb HB⟩⟩
                 ·rw [if_neg c19] at H;exact absurd H (by simp)
                ·rw [if_neg c18] at H;exact absurd H (by simp)
               ·rw [if_neg c17] at H;exact absurd H (by simp)
              ·replace c16:=Bool.eq_false_iff.mpr c16;subst c16
               have H1:(bH.l1 k3 l0 A4 (wrap64 (A1 - 1)))=some r:=by rw [if_neg (show ¬ (false=true) by decide)] at H;exact H
               clear H;have H:=H1;clear H1;have H':=aA.mk H;clear H;obtain ⟨Ao25,co25,eo25⟩:=Kd.R_slice A8.out;subst eo25;obtain ⟨Ao26,co26,eo26⟩:=Kd.R_slice A5.out;subst eo26;have p111:0≤(A1:Int):=od;have q111:A1 < (A4.length:Int):=od;obtain ⟨ad111,e111,hx111_0⟩:=Kd.at_bool (Kd.R_reads' A5.out).2.2 A1 p111 q111
               (try rw [← Nbq15.out] at hx111_0)
               cases e111;replace p111:=eq_true p111;replace q111:=eq_true q111;go_wp2;go_roundg k3
               case measure=>have:=HK1.out;have:=HK2.out;have:=HK3.out;omega
               case rel=>exact ⟨(A4),(wrap64 (A1 - 1)),(by first|rfl|(simp;done)|(simp [*];done)),H',⟨by have:=HK1.out;have:=HK2.out;have:=HK3.out;omega⟩,⟨ra A5⟩,⟨by exact tb HB⟩⟩
             ·rw [if_neg c14] at H;exact absurd H (by simp)
            ·rw [if_neg c13] at H;exact absurd H (by simp)
           ·rw [if_neg c12] at H;have c12b0:decide (A2 < (A3.length:Int))=false:=decide_eq_false c12;clear c12;have H':=aA.mk H;clear H;obtain ⟨Ao27,co27,eo27⟩:=Kd.R_slice A8.out;subst eo27;go_wp2;go_roundg k3
            case measure=>have:=HK1.out;have:=HK2.out;have:=HK3.out;omega
            case rel=>exact ⟨(A4),(wrap64 (A1 - 1)),(by first|rfl|(simp;done)|(simp [*];done)),H',⟨by have:=HK1.out;have:=HK2.out;have:=HK3.out;omega⟩,⟨ra A5⟩,⟨by exact tb HB⟩⟩
        ·rw [if_neg c9] at H;exact absurd H (by simp)
       ·rw [if_neg c8] at H;exact absurd H (by simp)
      ·rw [if_neg c7] at H;have c7b0:decide (0≤A1)=false:=decide_eq_false c7;clear c7;obtain rfl:=os H;go_wp2;go_ret;exact ⟨_,er,ra A5,tb HB⟩
def bY.f (k:Nat) (a0:Int) (a1:Int) (a2:Int):Option (Bool):=(bT.f k a0 a1).bind fun A1=>(if A1=true then ((bT.f k a0 a2).bind fun A0=>(some A0)) else (some false))
theorem bY.calls (k:Nat) (a0:Int) (a1:Int) (a2:Int) (r:Bool) (w:World) (h:bY.f k a0 a1 a2=some r) :
  Calls Try.prog 177 #[.int .i64 a0,.int .i64 a1,.int .i64 a2] w fun e w'=>e = .returned (.bool r)∧bW w w':=by
 have H:((bT.f k a0 a1).bind fun A1=>(if A1=true then ((bT.f k a0 a2).bind fun A0=>(some A0)) else (some false)))=some r:=h;clear h;replace H:=ob H;obtain ⟨A1,A40,H⟩:=H;replace H:(if A1=true then ((bT.f k a0 a2).bind fun A0=>(some A0)) else (some false))=some r:=H;have A4:=aA.mk A40;clear A40
 by_cases c5:A1=true
 ·subst c5
  have H1:((bT.f k a0 a2).bind fun A0=>(some A0))=some r:=by rw [if_pos rfl] at H;exact H
  clear H;have H:=H1;clear H1;replace H:=ob H;obtain ⟨A0,A60,H⟩:=H;replace H:(some A0)=some r:=H;have A6:=aA.mk A60;clear A60;obtain rfl:=os H
  go_enter Try.func177,Try.ntmps177
  go_wp2_with (first|((with_reducible refine aD (f:=131) rfl ?_);refine aI (some 9) rfl rfl Try.func131 (by kernel_rfl) rfl #[.int .i64 a0,.int .i64 a1] rfl ml ?_;(with_reducible refine (bT.calls k a0 a1 true _ A4.out).mono ?_);rintro e w' ⟨rfl,⟨nd,rfl⟩⟩;refine ⟨_,rfl,?_⟩)|(go_at_call 131;(try simp only [aJ,aN]);(with_reducible refine (bT.calls k a0 a2 A0 _ A6.out).mono ?_);rintro e w' ⟨rfl,⟨nd,rfl⟩⟩));go_ret;exact ⟨e1,dn⟩
 ·replace c5:=Bool.eq_false_iff.mpr c5;subst c5
  have H1:(some false)=some r:=by rw [if_neg (show ¬ (false=true) by decide)] at H;exact H
  clear H;have H:=H1;clear H1;obtain rfl:=os H
  go_enter Try.func177,Try.ntmps177
  go_wp2_with (first|((with_reducible refine aD (f:=131) rfl ?_);refine aI (some 9) rfl rfl Try.func131 (by kernel_rfl) rfl #[.int .i64 a0,.int .i64 a1] rfl ml ?_;(with_reducible refine (bT.calls k a0 a1 false _ A4.out).mono ?_);rintro e w' ⟨rfl,⟨nd,rfl⟩⟩;refine ⟨_,rfl,?_⟩));go_ret;exact ⟨e1,dn⟩
def iI.f (k:Nat) (a0:Int) (a1:Int):Option (Int):=(bT.f k a0 a1).bind fun A1=>(if A1=true then ((aH.f k a0).bind fun A0=>(some (wrap64 ((wrap64 (A0 - 1)) - a1)))) else (some 0))
theorem iI.calls (k:Nat) (a0:Int) (a1:Int) (r:Int) (w:World) (h:iI.f k a0 a1=some r) :
  Calls Try.prog 152 #[.int .i64 a0,.int .i64 a1] w fun e w'=>e = .returned (.int .i64 r)∧bW w w':=by
 have H:((bT.f k a0 a1).bind fun A1=>(if A1=true then ((aH.f k a0).bind fun A0=>(some (wrap64 ((wrap64 (A0 - 1)) - a1)))) else (some 0)))=some r:=h;clear h;replace H:=ob H;obtain ⟨A1,A30,H⟩:=H;replace H:(if A1=true then ((aH.f k a0).bind fun A0=>(some (wrap64 ((wrap64 (A0 - 1)) - a1)))) else (some 0))=some r:=H;have A3:=aA.mk A30;clear A30
 by_cases c4:A1=true
 ·subst c4
  have H1:((aH.f k a0).bind fun A0=>(some (wrap64 ((wrap64 (A0 - 1)) - a1))))=some r:=by rw [if_pos rfl] at H;exact H
  clear H;have H:=H1;clear H1;replace H:=ob H;obtain ⟨A0,A50,H⟩:=H;replace H:(some (wrap64 ((wrap64 (A0 - 1)) - a1)))=some r:=H;have A5:=aA.mk A50;clear A50;obtain rfl:=os H
  go_enter Try.func152,Try.ntmps152
  go_wp2_with (first|((with_reducible refine aD (f:=131) rfl ?_);refine aI (some 7) rfl rfl Try.func131 (by kernel_rfl) rfl #[.int .i64 a0,.int .i64 a1] rfl ml ?_;(with_reducible refine (bT.calls k a0 a1 true _ A3.out).mono ?_);rintro e w' ⟨rfl,⟨nd,rfl⟩⟩;refine ⟨_,rfl,?_⟩)|((with_reducible refine aD (f:=70) rfl ?_);refine aI (some 10) rfl rfl Try.func70 (by kernel_rfl) rfl #[.int .i64 a0] rfl ml ?_;(with_reducible refine (aH.calls k a0 A0 _ A5.out).mono ?_);rintro e w' ⟨rfl,⟨nd,rfl⟩⟩;refine ⟨_,rfl,?_⟩));go_ret;exact ⟨e1,dn⟩
 ·replace c4:=Bool.eq_false_iff.mpr c4;subst c4
  have H1:(some 0)=some r:=by rw [if_neg (show ¬ (false=true) by decide)] at H;exact H
  clear H;have H:=H1;clear H1;obtain rfl:=os H
  go_enter Try.func152,Try.ntmps152
  go_wp2_with (first|((with_reducible refine aD (f:=131) rfl ?_);refine aI (some 7) rfl rfl Try.func131 (by kernel_rfl) rfl #[.int .i64 a0,.int .i64 a1] rfl ml ?_;(with_reducible refine (bT.calls k a0 a1 false _ A3.out).mono ?_);rintro e w' ⟨rfl,⟨nd,rfl⟩⟩;refine ⟨_,rfl,?_⟩));go_ret;exact ⟨e1,dn⟩
def eR.f (k:Nat) (a0:Int) (a1:Int):Option (Int):=(bT.f k a0 a1).bind fun A2=>(if A2=true then ((aH.f k (wrap64 (a0 - 1))).bind fun A0=>(if a1 ≥ A0 then ((aH.f k a0).bind fun A1=>(some (wrap64 (a1 - A1)))) else (some a1))) else (some 0))
theorem eR.calls (k:Nat) (a0:Int) (a1:Int) (r:Int) (w:World) (h:eR.f k a0 a1=some r) :
  Calls Try.prog 178 #[.int .i64 a0,.int .i64 a1] w fun e w'=>e = .returned (.int .i64 r)∧bW w w':=by
 have H:((bT.f k a0 a1).bind fun A2=>(if A2=true then ((aH.f k (wrap64 (a0 - 1))).bind fun A0=>(if a1 ≥ A0 then ((aH.f k a0).bind fun A1=>(some (wrap64 (a1 - A1)))) else (some a1))) else (some 0)))=some r:=h;clear h;replace H:=ob H;obtain ⟨A2,A30,H⟩:=H
 try dsimp only at H
 have A3:=aA.mk A30;clear A30
 by_cases c4:A2=true
 ·subst c4
  have H1:((aH.f k (wrap64 (a0 - 1))).bind fun A0=>(if a1 ≥ A0 then ((aH.f k a0).bind fun A1=>(some (wrap64 (a1 - A1)))) else (some a1)))=some r:=by rw [if_pos rfl] at H;exact H
  clear H;have H:=H1;clear H1;replace H:=ob H;obtain ⟨A0,A50,H⟩:=H;replace H:(if a1 ≥ A0 then ((aH.f k a0).bind fun A1=>(some (wrap64 (a1 - A1)))) else (some a1))=some r:=H;have A5:=aA.mk A50;clear A50
  by_cases c6:a1 ≥ A0
  ·rw [if_pos c6] at H;have c6b0:decide (A0≤a1)=true:=decide_eq_true c6;clear c6;replace H:=ob H;obtain ⟨A1,A70,H⟩:=H;replace H:(some (wrap64 (a1 - A1)))=some r:=H;have A7:=aA.mk A70;clear A70;obtain rfl:=os H
   go_enter Try.func178,Try.ntmps178
   go_wp2_with (first|((with_reducible refine aD (f:=131) rfl ?_);refine aI (some 7) rfl rfl Try.func131 (by kernel_rfl) rfl #[.int .i64 a0,.int .i64 a1] rfl ml ?_;(with_reducible refine (bT.calls k a0 a1 true _ A3.out).mono ?_);rintro e w' ⟨rfl,⟨nd,rfl⟩⟩;refine ⟨_,rfl,?_⟩)|((with_reducible refine aD (f:=70) rfl ?_);refine aI (some 12) rfl rfl Try.func70 (by kernel_rfl) rfl #[.int .i64 (wrap64 (a0 - 1))] rfl ml ?_;(with_reducible refine (aH.calls k (wrap64 (a0 - 1)) A0 _ A5.out).mono ?_);rintro e w' ⟨rfl,⟨nd,rfl⟩⟩;refine ⟨_,rfl,?_⟩)|((with_reducible refine aD (f:=70) rfl ?_);refine aI (some 16) rfl rfl Try.func70 (by kernel_rfl) rfl #[.int .i64 a0] rfl ml ?_;(with_reducible refine (aH.calls k a0 A1 _ A7.out).mono ?_);rintro e w' ⟨rfl,⟨nd,rfl⟩⟩;refine ⟨_,rfl,?_⟩));go_ret;exact ⟨e1,dn⟩
  ·rw [if_neg c6] at H;have c6b0:decide (A0≤a1)=false:=decide_eq_false c6;clear c6;obtain rfl:=os H
   go_enter Try.func178,Try.ntmps178
   go_wp2_with (first|((with_reducible refine aD (f:=131) rfl ?_);refine aI (some 7) rfl rfl Try.func131 (by kernel_rfl) rfl #[.int .i64 a0,.int .i64 a1] rfl ml ?_;(with_reducible refine (bT.calls k a0 a1 true _ A3.out).mono ?_);rintro e w' ⟨rfl,⟨nd,rfl⟩⟩;refine ⟨_,rfl,?_⟩)|((with_reducible refine aD (f:=70) rfl ?_);refine aI (some 12) rfl rfl Try.func70 (by kernel_rfl) rfl #[.int .i64 (wrap64 (a0 - 1))] rfl ml ?_;(with_reducible refine (aH.calls k (wrap64 (a0 - 1)) A0 _ A5.out).mono ?_);rintro e w' ⟨rfl,⟨nd,rfl⟩⟩;refine ⟨_,rfl,?_⟩));go_ret;exact ⟨e1,dn⟩
 ·replace c4:=Bool.eq_false_iff.mpr c4;subst c4
  have H1:(some 0)=some r:=by rw [if_neg (show ¬ (false=true) by decide)] at H;exact H
  clear H;have H:=H1;clear H1;obtain rfl:=os H
  go_enter Try.func178,Try.ntmps178
  go_wp2_with (first|((with_reducible refine aD (f:=131) rfl ?_);refine aI (some 7) rfl rfl Try.func131 (by kernel_rfl) rfl #[.int .i64 a0,.int .i64 a1] rfl ml ?_;(with_reducible refine (bT.calls k a0 a1 false _ A3.out).mono ?_);rintro e w' ⟨rfl,⟨nd,rfl⟩⟩;refine ⟨_,rfl,?_⟩));go_ret;exact ⟨e1,dn⟩
def dE.j0:Nat→Int→Int→Int→Bool→Option (Int)
 | 0,_,_,_,_=>none
 | k + 1,x1,x2,x3,x24=>if x24=true then (some 0) else ((aH.f k x2).bind fun A1=>(if A1=0 then (none) else ((aH.f k x3).bind fun A0=>(if A0=0 then (none) else (some (Int.tmod (wrap64 (Int.tdiv x1 A1)) A0))))))
def dE.f (k:Nat) (a0:Int) (a1:Int) (a2:Int) (a3:Int):Option (Int):=(bT.f k a0 a1).bind fun A4=>(if A4=true then (if a2 < 0 then (dE.j0 k a1 a2 a3 true) else ((bB.f a3 1 (wrap64 (a0 - a2))).bind fun A2=>(dE.j0 k a1 a2 a3 (!A2)))) else (dE.j0 k a1 a2 a3 true))
theorem dE.calls (k:Nat) (a0:Int) (a1:Int) (a2:Int) (a3:Int) (r:Int) (w:World) (h:dE.f k a0 a1 a2 a3=some r) :
  Calls Try.prog 163 #[.int .i64 a0,.int .i64 a1,.int .i64 a2,.int .i64 a3] w fun e w'=>e = .returned (.int .i64 r)∧bW w w':=by
 have H:((bT.f k a0 a1).bind fun A4=>(if A4=true then (if a2 < 0 then (dE.j0 k a1 a2 a3 true) else ((bB.f a3 1 (wrap64 (a0 - a2))).bind fun A2=>(dE.j0 k a1 a2 a3 (!A2)))) else (dE.j0 k a1 a2 a3 true)))=some r:=h;clear h;have HC5:=aA.mk H;clear H
 go_enter Try.func163,Try.ntmps163
 go_upto_region 1 with (fail)
 repeat (go_quiet (fail);go_upto_region 1 with (fail))
 go_cut [24] (fun v24 wc=>∃ (kq:Nat) (A3:Bool),v24 = .bool A3∧aA (dE.j0 kq a1 a2 a3 A3=some r)∧aA (kq≤k)∧bW w wc)
 case first =>
  have H:=HC5.out;clear HC5;replace H:=ob H;obtain ⟨A4,A60,H⟩:=H
  try dsimp only at H
  have A6:=aA.mk A60;clear A60
  by_cases c7:A4=true
  ·subst c7
   have H1:(if a2 < 0 then (dE.j0 k a1 a2 a3 true) else ((bB.f a3 1 (wrap64 (a0 - a2))).bind fun A2=>(dE.j0 k a1 a2 a3 (!A2))))=some r:=by rw [if_pos rfl] at H;exact H
   clear H;have H:=H1;clear H1
   by_cases c8:a2 < 0
   ·rw [if_pos c8] at H;have c8b0:decide (a2 < 0)=true:=decide_eq_true c8;clear c8;(first|rw [c8b0]|(simp only [aJ,aN];rw [c8b0])|skip);have H':=aA.mk H;clear H;go_wp2_with (first|(go_at_call 131;(try simp only [aJ,aN]);(with_reducible refine (bT.calls k a0 a1 true _ A6.out).mono ?_);rintro e w' ⟨rfl,⟨nd,rfl⟩⟩;(try exact dd)))
    repeat (go_quiet (first|(go_at_call 131;(try simp only [aJ,aN]);(with_reducible refine (bT.calls k a0 a1 true _ A6.out).mono ?_);rintro e w' ⟨rfl,⟨nd,rfl⟩⟩;(try exact dd)));try go_wp2_with (first|(go_at_call 131;(try simp only [aJ,aN]);(with_reducible refine (bT.calls k a0 a1 true _ A6.out).mono ?_);rintro e w' ⟨rfl,⟨nd,rfl⟩⟩;(try exact dd))))
    go_meet
    case rel=>exact ⟨_,(true),(by first|rfl|(simp;done)|(simp [*];done)),H',⟨by first|omega|exact Nat.le_refl _⟩,by repeat (first|exact bW.refl _|apply bW.step)⟩
   ·rw [if_neg c8] at H;have c8b0:decide (a2 < 0)=false:=decide_eq_false c8;clear c8;(first|rw [c8b0]|(simp only [aJ,aN];rw [c8b0])|skip);replace H:=ob H;obtain ⟨A2,A90,H⟩:=H;replace H:(dE.j0 k a1 a2 a3 (!A2))=some r:=H;have A9:=aA.mk A90;clear A90;have H':=aA.mk H;clear H;go_wp2_with (first|(go_at_call 131;(try simp only [aJ,aN]);(with_reducible refine (bT.calls k a0 a1 true _ A6.out).mono ?_);rintro e w' ⟨rfl,⟨nd,rfl⟩⟩;(try exact dd))|(go_at_call 69;(try simp only [aJ,aN]);(with_reducible refine (bB.calls a3 1 (wrap64 (a0 - a2)) A2 _ A9.out).mono ?_);rintro e w' ⟨rfl,⟨nd,rfl⟩⟩;(try exact dd)))
    repeat (go_quiet (first|(go_at_call 131;(try simp only [aJ,aN]);(with_reducible refine (bT.calls k a0 a1 true _ A6.out).mono ?_);rintro e w' ⟨rfl,⟨nd,rfl⟩⟩;(try exact dd))|(go_at_call 69;(try simp only [aJ,aN]);(with_reducible refine (bB.calls a3 1 (wrap64 (a0 - a2)) A2 _ A9.out).mono ?_);rintro e w' ⟨rfl,⟨nd,rfl⟩⟩;(try exact dd)));try go_wp2_with (first|(go_at_call 131;(try simp only [aJ,aN]);(with_reducible refine (bT.calls k a0 a1 true _ A6.out).mono ?_);rintro e w' ⟨rfl,⟨nd,rfl⟩⟩;(try exact dd))|(go_at_call 69;(try simp only [aJ,aN]);(with_reducible refine (bB.calls a3 1 (wrap64 (a0 - a2)) A2 _ A9.out).mono ?_);rintro e w' ⟨rfl,⟨nd,rfl⟩⟩;(try exact dd))))
    go_meet
    case rel=>exact ⟨_,(!A2),(by first|rfl|(simp;done)|(simp [*];done)),H',⟨by first|omega|exact Nat.le_refl _⟩,by repeat (first|exact bW.refl _|apply bW.step)⟩
  ·replace c7:=Bool.eq_false_iff.mpr c7;subst c7
   have H1:(dE.j0 k a1 a2 a3 true)=some r:=by rw [if_neg (show ¬ (false=true) by decide)] at H;exact H
   clear H;have H:=H1;clear H1;have H':=aA.mk H;clear H;go_wp2_with (first|(go_at_call 131;(try simp only [aJ,aN]);(with_reducible refine (bT.calls k a0 a1 false _ A6.out).mono ?_);rintro e w' ⟨rfl,⟨nd,rfl⟩⟩;(try exact dd)))
   repeat (go_quiet (first|(go_at_call 131;(try simp only [aJ,aN]);(with_reducible refine (bT.calls k a0 a1 false _ A6.out).mono ?_);rintro e w' ⟨rfl,⟨nd,rfl⟩⟩;(try exact dd)));try go_wp2_with (first|(go_at_call 131;(try simp only [aJ,aN]);(with_reducible refine (bT.calls k a0 a1 false _ A6.out).mono ?_);rintro e w' ⟨rfl,⟨nd,rfl⟩⟩;(try exact dd))))
   go_meet
   case rel=>exact ⟨_,(true),(by first|rfl|(simp;done)|(simp [*];done)),H',⟨by first|omega|exact Nat.le_refl _⟩,by repeat (first|exact bW.refl _|apply bW.step)⟩
 case rest =>
  clear HC5;obtain ⟨kq,A3,rfl,HA,HJ4,⟨mc4,rfl⟩⟩:=hcut
  cases kq with
  | zero=>exact absurd HA.out (by simp [dE.j0])
  | succ kj4 =>
   have H:=HA.out;clear HA;simp only [dE.j0] at H
   by_cases c10:A3=true
   ·subst c10
    have H1:(some 0)=some r:=by rw [if_pos rfl] at H;exact H
    clear H;have H:=H1;clear H1;obtain rfl:=os H;go_wp2
    repeat (go_quiet (fail);try go_wp2)
    go_ret;exact ⟨e1,dn⟩
   ·replace c10:=Bool.eq_false_iff.mpr c10;subst c10
    have H1:((aH.f kj4 a2).bind fun A1=>(if A1=0 then (none) else ((aH.f kj4 a3).bind fun A0=>(if A0=0 then (none) else (some (Int.tmod (wrap64 (Int.tdiv a1 A1)) A0))))))=some r:=by rw [if_neg (show ¬ (false=true) by decide)] at H;exact H
    clear H;have H:=H1;clear H1;replace H:=ob H;obtain ⟨A1,A110,H⟩:=H
    try dsimp only at H
    have A11:=aA.mk A110;clear A110
    by_cases c12:A1=0
    ·rw [if_pos c12] at H;exact absurd H (by simp)
    ·rw [if_neg c12] at H;have c12b0:(A1 == 0)=false:=beq_eq_false_iff_ne.mpr c12;have c12b1:(A1 != 0)=true:=bne_iff_ne.mpr c12;replace H:=ob H;obtain ⟨A0,A130,H⟩:=H;replace H:(if A0=0 then (none) else (some (Int.tmod (wrap64 (Int.tdiv a1 A1)) A0)))=some r:=H;have A13:=aA.mk A130;clear A130
     by_cases c14:A0=0
     ·rw [if_pos c14] at H;exact absurd H (by simp)
     ·rw [if_neg c14] at H;have c14b0:(A0 == 0)=false:=beq_eq_false_iff_ne.mpr c14;have c14b1:(A0 != 0)=true:=bne_iff_ne.mpr c14;obtain rfl:=os H;go_wp2_with (first|(go_at_call 70;(try simp only [aJ,aN]);(with_reducible refine (aH.calls kj4 a2 A1 _ A11.out).mono ?_);rintro e w' ⟨rfl,⟨nd,rfl⟩⟩;(try exact dd))|(go_at_call 70;(try simp only [aJ,aN]);(with_reducible refine (aH.calls kj4 a3 A0 _ A13.out).mono ?_);rintro e w' ⟨rfl,⟨nd,rfl⟩⟩;(try exact dd)))
      repeat (go_quiet (first|(go_at_call 70;(try simp only [aJ,aN]);(with_reducible refine (aH.calls kj4 a2 A1 _ A11.out).mono ?_);rintro e w' ⟨rfl,⟨nd,rfl⟩⟩;(try exact dd))|(go_at_call 70;(try simp only [aJ,aN]);(with_reducible refine (aH.calls kj4 a3 A0 _ A13.out).mono ?_);rintro e w' ⟨rfl,⟨nd,rfl⟩⟩;(try exact dd)));try go_wp2_with (first|(go_at_call 70;(try simp only [aJ,aN]);(with_reducible refine (aH.calls kj4 a2 A1 _ A11.out).mono ?_);rintro e w' ⟨rfl,⟨nd,rfl⟩⟩;(try exact dd))|(go_at_call 70;(try simp only [aJ,aN]);(with_reducible refine (aH.calls kj4 a3 A0 _ A13.out).mono ?_);rintro e w' ⟨rfl,⟨nd,rfl⟩⟩;(try exact dd))))
      go_ret;exact ⟨e1,dn⟩
mutual
def dK.l0:Nat→List (eS)→List Bool→Int→Option (List Bool)
 | 0,_,_,_=>none
 | k + 1,x0,x3,x4=>if x4 < (x0.length:Int) then (dK.l1 k x0 x3 x4 0) else (some x3)
def dK.l1:Nat→List (eS)→List Bool→Int→Int→Option (List Bool)
 | 0,_,_,_,_=>none
 | k + 1,x0,x3,x4,x5=>if 0≤x4 then (if x4 < (x0.length:Int) then (if x5 < ((aV x0 x4).f2) then (if x3.length < 140737488355328 then (dK.l1 k x0 (x3 ++ [(aV x0 x4).f0]) x4 (wrap64 (x5 + 1))) else (none)) else (dK.l0 k x0 x3 (wrap64 (x4 + 1)))) else (none)) else (none)
end
def dK.f (k:Nat) (l0:List (eS)):Option (List Bool):=(some (([]:List Bool):List Bool)).bind fun y101=>((cU.f k l0).bind fun A3=>(if A3 > 12 then (some y101) else (dK.l0 k l0 y101 0)))
theorem dK.calls (k:Nat) (A0:Option Addr) (c0:Nat) (l0:List (eS)) (r:List Bool) (w:World) (hr0:Kd.C lU w A0 l0.length l0) (hc0:l0.length≤c0) (h:dK.f k l0=some r) :
  Calls Try.prog 51 #[.slice A0 l0.length c0] w fun e w'=>∃ v0_:Value,e = .returned (v0_)∧Kd.R Kd.bool 4 w' w.heap.size (fun _=>True) v0_ r∧Below w.heap.size w w':=by
 have HR0:=aA.mk hr0;have HC0:=aA.mk hc0;clear hr0 hc0;have HB:=aA.mk (Below.refl w.heap.size w);have H:((some (([]:List Bool):List Bool)).bind fun y101=>((cU.f k l0).bind fun A3=>(if A3 > 12 then (some y101) else (dK.l0 k l0 y101 0))))=some r:=h;clear h;obtain ⟨y101,hy101⟩:∃ y_:List Bool,y_=(([]:List Bool)):=⟨_,rfl⟩;replace H:((cU.f k l0).bind fun A3=>(if A3 > 12 then (some y101) else (dK.l0 k l0 y101 0)))=some r:=gQ hy101 H;have Ny101:=aA.mk hy101;clear hy101;replace H:=ob H;obtain ⟨A3,A20,H⟩:=H;replace H:(if A3 > 12 then (some y101) else (dK.l0 k l0 y101 0))=some r:=H;have A2:=aA.mk A20;clear A20
 by_cases c3:A3 > 12
 ·rw [if_pos c3] at H;have c3b0:decide (12 < A3)=true:=decide_eq_true c3;clear c3;obtain rfl:=os H
  go_enter Try.func51,Try.ntmps51
  go_wp2_with (first|((with_reducible refine bF (N:=6) rfl ?_);refine Kd.R_lit Kd.bool _ 4 ?hg (N:=6) ?hd (xs:=([]:List Bool)) (inner:=[]) (ok:=fun _=>True) (okp:=fun _=>True) ?hr ?hp (fun _ hk=>hk) trivial (Below.refl _ _) (Nat.le_refl _) (by simp) ?_;(case hd=>rfl);(case hg=>rfl);(case hr=>first|(go_simp;done)|(go_simp;rfl));(case hp=>exact (cQ.none _ _));intro v102 w4 ho5 hb hg_ hnew_;clear hg_ hnew_;(first|rw [← Ny101.out] at ho5|(simp only [Int.reduceToNat] at ho5;rw [← Ny101.out] at ho5));have A7:=aA.mk (Kd.R_lower ho5 (aG (tb HB)));replace HB:=aA.mk (aE (tb HB) hb);clear hb ho5)|((with_reducible refine aD (f:=80) rfl ?_);refine aI (some 8) rfl rfl Try.func80 (by kernel_rfl) rfl #[.slice A0 l0.length c0] rfl ml ?_;(with_reducible refine (cU.calls k _ _ l0 A3 _ ?side1 ?side2 A2.out).mono ?_);(case side1=>exact cw (Kd.C_below HR0.out HB.out));(case side2=>exact HC0.out);rintro e w' ⟨rfl,⟨nd,rfl⟩⟩;refine ⟨_,rfl,?_⟩));go_ret;exact ⟨_,er,ra A7,tb HB⟩
 ·rw [if_neg c3] at H;have c3b0:decide (12 < A3)=false:=decide_eq_false c3;clear c3;have H':=aA.mk H;clear H
  go_enter Try.func51,Try.ntmps51
  go_wp2_with (first|((with_reducible refine bF (N:=6) rfl ?_);refine Kd.R_lit Kd.bool _ 4 ?hg (N:=6) ?hd (xs:=([]:List Bool)) (inner:=[]) (ok:=fun _=>True) (okp:=fun _=>True) ?hr ?hp (fun _ hk=>hk) trivial (Below.refl _ _) (Nat.le_refl _) (by simp) ?_;(case hd=>rfl);(case hg=>rfl);(case hr=>first|(go_simp;done)|(go_simp;rfl));(case hp=>exact (cQ.none _ _));intro v102 w6 ho7 hb hg_ hnew_;clear hg_ hnew_;(first|rw [← Ny101.out] at ho7|(simp only [Int.reduceToNat] at ho7;rw [← Ny101.out] at ho7));have A7:=aA.mk (Kd.R_lower ho7 (aG (tb HB)));replace HB:=aA.mk (aE (tb HB) hb);clear hb ho7)|((with_reducible refine aD (f:=80) rfl ?_);refine aI (some 8) rfl rfl Try.func80 (by kernel_rfl) rfl #[.slice A0 l0.length c0] rfl ml ?_;(with_reducible refine (cU.calls k _ _ l0 A3 _ ?side1 ?side2 A2.out).mono ?_);(case side1=>exact cw (Kd.C_below HR0.out HB.out));(case side2=>exact HC0.out);rintro e w' ⟨rfl,⟨nd,rfl⟩⟩;refine ⟨_,rfl,?_⟩))
  go_loopg [3,4] k (fun kq v3 v4 w'=>∃ (A8:List Bool) (A1:Int),v4 = .int .i64 A1∧aA (dK.l0 kq l0 A8 A1=some r)∧aA (kq≤k)∧aA (Kd.R Kd.bool 4 w' w.heap.size (fun _=>True) v3 A8)∧aA (Below w.heap.size w w'))
  case atStart=>exact ⟨(y101),(0),(by first|rfl|(simp;done)|(simp [*];done)),H',⟨Nat.le_refl _⟩,⟨ra A7⟩,⟨by exact tb HB⟩⟩
  case round =>
   clear H';obtain ⟨A8,A1,rfl,HA,HK1,A6,HB⟩:=hrel
   cases gk with
   | zero=>exact absurd HA.out (by simp [dK.l0])
   | succ k1 =>
    have H:=HA.out;clear HA;simp only [dK.l0] at H
    by_cases c8:A1 < (l0.length:Int)
    ·rw [if_pos c8] at H;have c8b0:decide (A1 < (l0.length:Int))=true:=decide_eq_true c8;clear c8;have H':=aA.mk H;clear H;go_wp2
     go_loopg [3,5] k1 (fun kq v3 v5 w'=>∃ (A5:List Bool) (A4:Int),v5 = .int .i64 A4∧aA (dK.l1 kq l0 A5 A1 A4=some r)∧aA (kq≤k1)∧aA (Kd.R Kd.bool 4 w' w.heap.size (fun _=>True) v3 A5)∧aA (Below w.heap.size w w'))
     case atStart=>exact ⟨(A8),(0),(by first|rfl|(simp;done)|(simp [*];done)),H',⟨Nat.le_refl _⟩,⟨ra A6⟩,⟨by exact tb HB⟩⟩
     case round =>
      clear H';obtain ⟨A5,A4,rfl,HA,HK2,A6,HB⟩:=hrel
      cases gk with
      | zero=>exact absurd HA.out (by simp [dK.l1])
      | succ k2 =>
       have H:=HA.out;clear HA;simp only [dK.l1] at H
       by_cases c9:0≤A1
       ·rw [if_pos c9] at H;have c9b0:decide (0≤A1)=true:=decide_eq_true c9;clear c9
        by_cases c10:A1 < (l0.length:Int)
        ·rw [if_pos c10] at H;have c10b0:decide (A1 < (l0.length:Int))=true:=decide_eq_true c10;clear c10
         by_cases c11:A4 < ((aV l0 A1).f2)
         ·rw [if_pos c11] at H;have c11b0:decide (A4 < ((aV l0 A1).f2))=true:=decide_eq_true c11;clear c11
          by_cases c12:A5.length < 140737488355328
          ·rw [if_pos c12] at H;have LMc12:=aA.mk c12;clear c12;obtain ⟨y107,hy107⟩:∃ y_:List Bool,y_=(A5 ++ [(aV l0 A1).f0]):=⟨_,rfl⟩;replace H:(dK.l1 k2 l0 y107 A1 (wrap64 (A4 + 1)))=some r:=gQ hy107 H;have Ny107:=aA.mk hy107;clear hy107;have H':=aA.mk H;clear H;have p105:0≤(A1:Int):=od;have q105:A1 < (l0.length:Int):=od;obtain ⟨ad105,e105,hx105_0,hx105_1,hx105_2⟩:=jA HR0.out A1 p105 q105;cases e105;replace hx105_0:=ct HB hx105_0;replace hx105_1:=ct HB hx105_1;replace hx105_2:=ct HB hx105_2;replace p105:=eq_true p105;replace q105:=eq_true q105;have p106:0≤(A1:Int):=od;have q106:A1 < (l0.length:Int):=od;obtain ⟨ad106,e106,hx106_0,hx106_1,hx106_2⟩:=jA HR0.out A1 p106 q106;obtain rfl:ad105=ad106:=(by injection e106);replace hx106_0:=ct HB hx106_0;replace hx106_1:=ct HB hx106_1;replace hx106_2:=ct HB hx106_2;replace p106:=eq_true p106;replace q106:=eq_true q106;go_wp2_with (first|((with_reducible refine cD (b := .append) (xs:=#[.tmp 26,.tmp 32]) rfl ?_);at_builtin;refine Kd.R_append Kd.bool (w0:=w) w.heap.size rfl (.tmp 26) (.tmp 32) 24 4 (.bool false) 1 rfl Try.underlying24 iY rfl (by decide) (by omega) u3 A5 ((aV l0 A1).f0) [.bool ((aV l0 A1).f0)] (fun _=>True) (fun _=>False) rfl rfl ?aP (fun _ hk=>hk.elim) ?aF ?aO ?aB ?aS ?aL ?_;(case aP=>exact rfl);(case aB=>exact (tb HB));(case aF=>exact (fun _ _=>trivial));(case aO=>exact (ra A6));(case aS=>exact (aG (tb HB)));(case aL=>have:=LMc12.out;omega);intro v108 w13 ho hb hg hat;rw [← Ny107.out] at ho;replace HB:=aA.mk (hb);have A9:=aA.mk (ho);clear A6;clear ho hb hg hat));go_roundg k2
           case measure=>have:=HK1.out;have:=HK2.out;omega
           case rel=>exact ⟨(y107),(wrap64 (A4 + 1)),(by first|rfl|(simp;done)|(simp [*];done)),H',⟨by have:=HK1.out;have:=HK2.out;omega⟩,⟨ra A9⟩,⟨by exact tb HB⟩⟩
          ·rw [if_neg c12] at H;exact absurd H (by simp)
         ·rw [if_neg c11] at H;have c11b0:decide (A4 < ((aV l0 A1).f2))=false:=decide_eq_false c11;clear c11;have H':=aA.mk H;clear H;have p105:0≤(A1:Int):=od;have q105:A1 < (l0.length:Int):=od;obtain ⟨ad105,e105,hx105_0,hx105_1,hx105_2⟩:=jA HR0.out A1 p105 q105;cases e105;replace hx105_0:=ct HB hx105_0;replace hx105_1:=ct HB hx105_1;replace hx105_2:=ct HB hx105_2;replace p105:=eq_true p105;replace q105:=eq_true q105;go_wp2;go_roundg k2
          case measure=>have:=HK1.out;have:=HK2.out;omega
          case rel=>exact ⟨(A5),(wrap64 (A1 + 1)),(by first|rfl|(simp;done)|(simp [*];done)),H',⟨by have:=HK1.out;have:=HK2.out;omega⟩,⟨ra A6⟩,⟨by exact tb HB⟩⟩
        ·rw [if_neg c10] at H;exact absurd H (by simp)
       ·rw [if_neg c9] at H;exact absurd H (by simp)
    ·rw [if_neg c8] at H;have c8b0:decide (A1 < (l0.length:Int))=false:=decide_eq_false c8;clear c8;obtain rfl:=os H;go_wp2;go_ret;exact ⟨_,er,ra A6,tb HB⟩
end Go.Proofs.Ythipjoioicmcnaa.G
namespace Go.Proofs.Ythipjoioicmcnaa.Pure
open Go.RowKit Go.Proofs.Ythipjoioicmcnaa.G Go.Proofs.YthipjoioicmcnaaW.PrintWords Go.Proofs.YthipjoioicmcnaaW.PrintLast Go.Proofs.YthipjoioicmcnaaW.PrintMore
theorem oT {R:Type} (L:Nat→Nat→Option R) (n:Nat) (p:Nat→Bool) (r bad:R) (step:∀ k i,i < n→p i=true→L (k + 1) i=L k (i + 1)) (exit:∀ k i,i < n→p i=false→L (k + 1) i=some bad)
  (stop:∀ k,L (k + 1) n=some r):∀ k,n < k→L k 0=some (if (List.range n).all p then r else bad) :=
 tY L n p r bad (fun k i hi _ hp=>step k i hi hp) (fun k i hi _ hp=>exit k i hi hp) (fun k _=>stop k)
def nJ (b:Bool):Int:=if b then 49 else 48
def ones (l:List Bool):ByteArray:=⟨(l.map fun b=>if b then (49:UInt8) else 48).toArray⟩
theorem fD (l:List Bool):(ones l).size=l.length:=by
 show (l.map fun b=>if b then (49:UInt8) else 48).toArray.size=_
 simp
theorem qJ (l:List Bool) (i:Nat) (h:i < l.length):bt (ones l) (i:Int)=nJ (l.getD i false):=by
 have hs:i < (ones l).size:=by rw [fD];exact h
 rw [xG _ i hs,dZ l i false h]
 have e:(ones l)[i]=if l[i] then (49:UInt8) else 48:=by
  have h1:(ones l).data.toList[i]? = some (ones l)[i]:=by
   rw [List.getElem?_eq_getElem (by simpa using hs)]
   rfl
  have h2:(ones l).data.toList[i]? = some (if l[i] then (49:UInt8) else 48):=by simp [ones,h]
  exact Option.some.inj (h1.symm.trans h2)
 rw [e]
 unfold nJ
 cases l[i] <;> rfl
theorem oH {a b:ByteArray} (h:a.data.toList=b.data.toList):a=b:=by
 cases a;cases b
 simp only [ByteArray.mk.injEq]
 exact Array.toList_inj.1 h
theorem toList_inj {a b:ByteArray}:a.toList=b.toList↔a=b:=by
 rw [nU,nU]
 exact ⟨oH,fun h=>h ▸ rfl⟩
theorem iN (l:List Bool):strOfNums (l.map nJ)=ones l:=by
 unfold strOfNums ones
 congr 2
 rw [List.map_map]
 refine List.map_congr_left fun b _=>?_
 cases b <;> rfl
def tok (N:Int) (s:ByteArray):Bool:=decide (0≤N∧N≤12∧(s.size:Int)=2 ^ N.toNat) && (List.range s.size).all fun (i:Nat)=>bt s (i:Int) == 48 || bt s (i:Int) == 49
theorem mX {N:Int} {s:ByteArray} (h:tok N s=true):∃ (n:Nat) (l:List Bool),N=(n:Int)∧n≤12∧l.length=2 ^ n∧s=ones l:=by
  unfold tok at h
  simp only [Bool.and_eq_true,decide_eq_true_eq] at h
  obtain ⟨⟨h0,h1,h2⟩,h3⟩:=h
  obtain ⟨n,rfl⟩:=Int.eq_ofNat_of_zero_le h0
  have h2':s.size=2 ^ n:=by
    rw [Int.toNat_natCast] at h2
    exact_mod_cast h2
  refine ⟨n,(List.range s.size).map fun (i:Nat)=>decide (bt s (i:Int)=49),rfl,by omega,by simp [h2'],?_⟩
  apply oH
  apply List.ext_getElem?
  intro i
  rcases Nat.lt_or_ge i s.size with hi|hi
  · have hb:=List.all_eq_true.1 h3 i (by simpa using hi)
    have e:s.data.toList[i]? = some s[i]:=by
      rw [List.getElem?_eq_getElem (by simpa using hi)]
      rfl
    rw [e]
    have hv:=xG s i hi
    simp only [ones,List.map_map,List.getElem?_map,List.getElem?_range hi,Option.map_some,Function.comp]
    congr 1
    simp only [Bool.or_eq_true,beq_iff_eq] at hb
    have hd : ∀ c : UInt8, ((c.toNat : Int) = 48 → c = 48) ∧ ((c.toNat : Int) = 49 → c = 49) := fun c => ⟨fun h => UInt8.toNat_inj.1 (by have : c.toNat = 48 := by omega
                                                                                                                                         rw [this]; rfl), fun h => UInt8.toNat_inj.1 (by have : c.toNat = 49 := by omega
                                                                                                                                                                                         rw [this];rfl)⟩
    rcases hb with hb|hb
    · have hc:=(hd s[i]).1 (hv ▸ hb)
      simp [hb,hc]
    · have hc:=(hd s[i]).2 (hv ▸ hb)
      simp [hb,hc]
  · rw [List.getElem?_eq_none (by simpa using hi),List.getElem?_eq_none (by simp [ones];exact hi)]
theorem mY {n:Nat} {l:List Bool} (hn:n≤12) (hl:l.length=2 ^ n):tok (n:Int) (ones l)=true:=by
 unfold tok
 rw [Bool.and_eq_true]
 refine ⟨decide_eq_true ⟨by omega,by omega,?_⟩,List.all_eq_true.2 fun i hi=>?_⟩
 ·rw [fD,hl,Int.toNat_natCast]
  norm_cast
 ·have hi':i < l.length:=by rw [fD] at hi;simpa using hi
  rw [qJ l i hi']
  unfold nJ
  cases l.getD i false <;> rfl
theorem sD {n:Nat} (hn:n≤12):2 ^ n≤4096:=Nat.pow_le_pow_right (by decide) hn
theorem aCE {n:Nat} (hn:n≤61):(2:Int) ^ n≤2305843009213693952:=by
 have h:2 ^ n≤2 ^ 61:=Nat.pow_le_pow_right (by decide) hn
 have h2:((2 ^ n:Nat):Int)≤((2 ^ 61:Nat):Int):=by exact_mod_cast h
 have h3:((2 ^ n:Nat):Int)=(2:Int) ^ n:=by norm_cast
 omega
theorem oO (n:Nat):(1:Int)≤2 ^ n:=by
 have h:1≤2 ^ n:=Nat.one_le_two_pow
 have h2:((1:Nat):Int)≤((2 ^ n:Nat):Int):=by exact_mod_cast h
 have h3:((2 ^ n:Nat):Int)=(2:Int) ^ n:=by norm_cast
 omega
theorem jU (n:Nat) (hn:n≤60):∀ k,n < k→aH.f k (n:Int)=some ((2:Int) ^ n):=by
 intro k hk
 unfold aH.f
 refine rounds (fun k i=>aH.l0 k (n:Int) ((2:Int) ^ i) (i:Int)) n _ ?_ ?_ k hk
 ·intro k i hi
  simp only [aH.l0]
  have h1:=aCE (n:=i + 1) (by omega)
  have h2:=oO i
  rw [if_pos (by omega),eP i (by omega),show (2:Int) * 2 ^ i=2 ^ (i + 1) from by rw [Int.pow_succ];omega,jR (by have:=oO (i + 1);omega) (by omega)]
 ·intro k
  simp only [aH.l0]
  rw [if_neg (by omega)]
theorem lC (N:Int) (s:ByteArray) (hs:s.size≤1099511627776):∀ k,s.size + 20 < k→bX.f k N s=some (tok N s):=by
 intro k hk
 obtain ⟨k,rfl⟩:∃ m,k=m + 1:=⟨k - 1,by omega⟩
 unfold bX.f bB.f
 by_cases h0:N ≥ 0
 ·rw [if_pos h0]
  by_cases h1:N≤12
  ·obtain ⟨n,rfl⟩:=Int.eq_ofNat_of_zero_le h0
   simp only [h1,decide_true,Option.bind_some,if_true]
   rw [jU n (by omega) (k + 1) (by omega)]
   simp only [Option.bind_some,bX.j0]
   by_cases h2:(s.size:Int)=2 ^ n
   ·rw [if_neg (by simp [h2])]
    have h:=oT (fun k i=>bX.l0 k (i:Int) (n:Int) s) s.size (fun i=>bt s i == 48 || bt s i == 49) true false ?_ ?_ ?_ k (by omega)
    ·refine h.trans ?_
     unfold tok
     rw [decide_eq_true (⟨h0,h1,by rw [Int.toNat_natCast];exact h2⟩:0≤(n:Int)∧(n:Int)≤12∧(s.size:Int)=2 ^ (n:Int).toNat),Bool.true_and]
     congr 1
     split <;> simp_all
    ·intro k i hi hp
     simp only [bX.l0]
     simp only [Bool.or_eq_true,beq_iff_eq] at hp
     rw [if_pos (by omega),if_pos (by omega),eP i (by omega)]
     rcases hp with hp|hp
     ·rw [if_pos hp]
     ·rw [if_neg (by omega),if_pos hp]
    ·intro k i hi hp
     simp only [bX.l0]
     simp only [Bool.or_eq_false_iff,beq_eq_false_iff_ne] at hp
     rw [if_pos (by omega),if_pos (by omega),if_neg hp.1,if_neg hp.2]
    ·intro k
     simp only [bX.l0]
     rw [if_neg (by omega)]
   ·rw [if_pos (by simpa using h2)]
    unfold tok
    rw [decide_eq_false (by rintro ⟨_,_,h⟩;rw [Int.toNat_natCast] at h;exact h2 h),Bool.false_and]
  ·simp only [h1,decide_false,Option.bind_some]
   simp only [Bool.false_eq_true,if_false,bX.j0,if_true]
   unfold tok
   rw [decide_eq_false (by omega),Bool.false_and]
 ·rw [if_neg h0]
  simp only [Option.bind_some,Bool.false_eq_true,if_false,bX.j0,if_true]
  unfold tok
  rw [decide_eq_false (by omega),Bool.false_and]
theorem rC (n:Nat) (hn:n≤60):shl .i64 1 (n:Int)=(2:Int) ^ n:=by
 unfold shl
 rw [Int.toNat_natCast,show min n IntKind.i64.bits=n from by simp [IntKind.bits];omega,Int.one_mul,IntKind.wrap_i64]
 have h1:=aCE (n:=n) (by omega)
 have h2:=oO n
 omega
theorem lB (N:Int) (s:ByteArray) (hs:s.size≤1099511627776):∀ k,s.size + 20 < k→bZ.f k N s=some (tok N s):=by
 intro k hk
 obtain ⟨k,rfl⟩:∃ m,k=m + 1:=⟨k - 1,by omega⟩
 unfold bZ.f cA.f
 by_cases h0:N ≥ 0
 ·rw [if_pos h0]
  by_cases h1:N≤12
  ·obtain ⟨n,rfl⟩:=Int.eq_ofNat_of_zero_le h0
   simp only [h1,decide_true,Option.bind_some,if_true]
   rw [zF (by omega) (by omega),if_pos (by omega),rC n (by omega)]
   simp only [bZ.j0]
   by_cases h2:(s.size:Int)=2 ^ n
   ·rw [if_neg (by simp [h2])]
    have h:=oT (fun k i=>bZ.l0 k (s.size:Int) (i:Int) (n:Int) s) s.size (fun i=>bt s i == 48 || bt s i == 49) true false ?_ ?_ ?_ k (by omega)
    ·refine h.trans ?_
     unfold tok
     rw [decide_eq_true (⟨h0,h1,by rw [Int.toNat_natCast];exact h2⟩:0≤(n:Int)∧(n:Int)≤12∧(s.size:Int)=2 ^ (n:Int).toNat),Bool.true_and]
     congr 1
     split <;> simp_all
    ·intro k i hi hp
     simp only [bZ.l0]
     simp only [Bool.or_eq_true,beq_iff_eq] at hp
     rw [if_pos (by omega),if_pos (by omega),if_pos (by omega),eP i (by omega)]
     rcases hp with hp|hp
     ·rw [if_pos hp]
     ·rw [if_neg (by omega),if_pos hp]
    ·intro k i hi hp
     simp only [bZ.l0]
     simp only [Bool.or_eq_false_iff,beq_eq_false_iff_ne] at hp
     rw [if_pos (by omega),if_pos (by omega),if_pos (by omega),if_neg hp.1,if_neg hp.2]
    ·intro k
     simp only [bZ.l0]
     rw [if_neg (by omega)]
   ·rw [if_pos (by simpa using h2)]
    unfold tok
    rw [decide_eq_false (by rintro ⟨_,_,h⟩;rw [Int.toNat_natCast] at h;exact h2 h),Bool.false_and]
  ·simp only [h1,decide_false,Option.bind_some]
   simp only [Bool.false_eq_true,if_false,bZ.j0,if_true]
   unfold tok
   rw [decide_eq_false (by omega),Bool.false_and]
 ·rw [if_neg h0]
  simp only [Option.bind_some,Bool.false_eq_true,if_false,bZ.j0,if_true]
  unfold tok
  rw [decide_eq_false (by omega),Bool.false_and]
end Go.Proofs.Ythipjoioicmcnaa.Pure
namespace Go.Proofs.Ythipjoioicmcnaa.G
open Go.RowKit Go.Proofs.YthipjoioicmcnaaW.PrintWords Go.Proofs.YthipjoioicmcnaaW.PrintLast Go.Proofs.YthipjoioicmcnaaW.PrintMore Go.Proofs.Ythipjoioicmcnaa.Sh
attribute [local go_sem] dP dR eA eB dB dC dQ dS
def cY.f (a0:Int) (a1:Int):Option (Bool):=(cS.f a0).bind fun A1=>(if A1=true then (if 0≤(IntKind.u64.wrap (a0)) then ((cA.f a1 0 (wrap64 ((shl .i64 1 (IntKind.u64.wrap (a0))) - 1))).bind fun A0=>(some A0)) else (none)) else (some false))
theorem cY.calls (a0:Int) (a1:Int) (r:Bool) (w:World) (h:cY.f a0 a1=some r) :
  Calls Try.prog 165 #[.int .i64 a0,.int .i64 a1] w fun e w'=>e = .returned (.bool r)∧bW w w':=by
 have H:((cS.f a0).bind fun A1=>(if A1=true then (if 0≤(IntKind.u64.wrap (a0)) then ((cA.f a1 0 (wrap64 ((shl .i64 1 (IntKind.u64.wrap (a0))) - 1))).bind fun A0=>(some A0)) else (none)) else (some false)))=some r:=h;clear h;replace H:=ob H;obtain ⟨A1,A30,H⟩:=H
 try dsimp only at H
 have A3:=aA.mk A30;clear A30
 by_cases c4:A1=true
 ·subst c4
  have H1:(if 0≤(IntKind.u64.wrap (a0)) then ((cA.f a1 0 (wrap64 ((shl .i64 1 (IntKind.u64.wrap (a0))) - 1))).bind fun A0=>(some A0)) else (none))=some r:=by rw [if_pos rfl] at H;exact H
  clear H;have H:=H1;clear H1;obtain ⟨ji5,hji5⟩:∃ j_:Int,(IntKind.u64.wrap (a0))=j_:=⟨_,rfl⟩
  replace H:(if 0≤(ji5) then ((cA.f a1 0 (wrap64 ((shl .i64 1 (ji5)) - 1))).bind fun A0=>(some A0)) else (none))=some r:=by first|(rw [hji5] at H;exact H)|(simp only [hji5] at H ⊢;exact H)
  (try rw [hji5] at A3)
  by_cases c6:0≤(ji5)
  ·rw [if_pos c6] at H;have c6b0:=eq_true c6;have c6b1:decide (0≤(ji5))=true:=decide_eq_true c6;clear c6;obtain ⟨ji7,hji7⟩:∃ j_:Int,(shl .i64 1 (ji5))=j_:=⟨_,rfl⟩
   replace H:((cA.f a1 0 (wrap64 ((ji7) - 1))).bind fun A0=>(some A0))=some r:=by first|(rw [hji7] at H;exact H)|(simp only [hji7] at H ⊢;exact H)
   (try rw [hji7] at A3)
   have hji7_:(IntKind.i64.wrap (1 * 2 ^ min (ji5).toNat 64))=ji7:=hji7;have hji7z:(ji5)≤64→(IntKind.i64.wrap (1 * 2 ^ (ji5).toNat))=ji7:=gU hji7
   have hji7u:(IntKind.i64.wrap (2 ^ min (ji5).toNat 64))=ji7:=by have h_:=hji7_;rw [Int.one_mul] at h_;exact h_
   have hji7v:(ji5)≤64→(IntKind.i64.wrap (2 ^ (ji5).toNat))=ji7:=fun hle_=>by have h_:=hji7z hle_;rw [Int.one_mul] at h_;exact h_
   have hji7y:(wrap64 (1 * 2 ^ min (ji5).toNat 64))=ji7:=(aJ _).symm.trans hji7_
   have hji7x:(ji5)≤64→(wrap64 (1 * 2 ^ (ji5).toNat))=ji7:=fun h_=>(aJ _).symm.trans (hji7z h_)
   replace H:=ob H;obtain ⟨A0,A80,H⟩:=H;replace H:(some A0)=some r:=H;have A8:=aA.mk A80;clear A80;obtain rfl:=os H
   go_enter Try.func165,Try.ntmps165
   go_wp2_with (first|((with_reducible refine aD (f:=119) rfl ?_);refine aI (some 6) rfl rfl Try.func119 (by kernel_rfl) rfl #[.int .i64 a0] rfl ml ?_;(with_reducible refine (cS.calls a0 true _ A3.out).mono ?_);rintro e w' ⟨rfl,⟨nd,rfl⟩⟩;refine ⟨_,rfl,?_⟩)|(go_at_call 61;(try simp only [aJ,aN]);(with_reducible refine (cA.calls a1 0 (wrap64 ((ji7) - 1)) A0 _ A8.out).mono ?_);rintro e w' ⟨rfl,⟨nd,rfl⟩⟩));go_ret;exact ⟨by first|rfl|(simp;done)|(simp only [← hji5,← hji7] <;> (first|rfl|simp))|(simp [*];done),by repeat (first|exact bW.refl _|apply bW.step)⟩
  ·rw [if_neg c6] at H;exact absurd H (by simp)
 ·replace c4:=Bool.eq_false_iff.mpr c4;subst c4
  have H1:(some false)=some r:=by rw [if_neg (show ¬ (false=true) by decide)] at H;exact H
  clear H;have H:=H1;clear H1;obtain rfl:=os H
  go_enter Try.func165,Try.ntmps165
  go_wp2_with (first|((with_reducible refine aD (f:=119) rfl ?_);refine aI (some 6) rfl rfl Try.func119 (by kernel_rfl) rfl #[.int .i64 a0] rfl ml ?_;(with_reducible refine (cS.calls a0 false _ A3.out).mono ?_);rintro e w' ⟨rfl,⟨nd,rfl⟩⟩;refine ⟨_,rfl,?_⟩));go_ret;exact ⟨e1,dn⟩
end Go.Proofs.Ythipjoioicmcnaa.G
