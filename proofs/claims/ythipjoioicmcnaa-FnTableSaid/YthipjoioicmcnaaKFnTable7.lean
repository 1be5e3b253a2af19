-- texts of this session, merged by a program of it (wip/gen/pack.py)
import Derived.Test.YthipjoioicmcnaaKFnTable2
import Derived.Test.YthipjoioicmcnaaKFnTable6
set_option linter.unusedVariables false
set_option linter.unusedSimpArgs false
set_option maxHeartbeats 80000000
set_option maxRecDepth 100000
namespace Go.Proofs.Ythipjoioicmcnaa.G
open Go.RowKit Go.Proofs.YthipjoioicmcnaaW.PrintWords Go.Proofs.YthipjoioicmcnaaW.PrintLast Go.Proofs.YthipjoioicmcnaaW.PrintMore Go.Proofs.Ythipjoioicmcnaa.Sh
attribute [local go_sem] eS eR fI fJ eI eJ eU eT
def dJ.l0:Nat→List Int→List Bool→Int→Option (List Int)
 | 0,_,_,_=>none
 | k + 1,x3,x4,x5=>if x5 < 8 then (if 0≤x5 then (if x5 < (x4.length:Int) then (if cW false x4 x5=true then (if x3.length < 17592186044416 then (dJ.l0 k (x3 ++ [x5]) x4 (wrap64 (x5 + 1))) else (none)) else (dJ.l0 k x3 x4 (wrap64 (x5 + 1)))) else (none)) else (none)) else (some x3)
def dJ.f (k:Nat) (l0:List (bN)):Option (List Int):=(some (([]:List Int):List Int)).bind fun y101=>((cD.f k l0).bind fun A7=>(if A7=true then ((bC.f k l0).bind fun A3=>(dJ.l0 k y101 A3 0)) else (some y101)))
theorem dJ.calls (k:Nat) (A0:Option Addr) (c0:Nat) (l0:List (bN)) (r:List Int) (w:World) (hr0:Kd.C eV w A0 l0.length l0) (hc0:l0.length≤c0) (h:dJ.f k l0=some r) :
  Calls Try.prog 128 #[.slice A0 l0.length c0] w fun e w'=>∃ v0_:Value,e = .returned (v0_)∧Kd.R (Kd.int .i64) 3 w' w.heap.size (fun _=>True) v0_ r∧Below w.heap.size w w':=by
 have HR0:=aA.mk hr0;have HC0:=aA.mk hc0;clear hr0 hc0;have HB:=aA.mk (Below.refl w.heap.size w);have H:((some (([]:List Int):List Int)).bind fun y101=>((cD.f k l0).bind fun A7=>(if A7=true then ((bC.f k l0).bind fun A3=>(dJ.l0 k y101 A3 0)) else (some y101))))=some r:=h;clear h;obtain ⟨y101,hy101⟩:∃ y_:List Int,y_=(([]:List Int)):=⟨_,rfl⟩;replace H:((cD.f k l0).bind fun A7=>(if A7=true then ((bC.f k l0).bind fun A3=>(dJ.l0 k y101 A3 0)) else (some y101)))=some r:=gM hy101 H;have Ny101:=aA.mk hy101;clear hy101;replace H:=ob H;obtain ⟨A7,A20,H⟩:=H;replace H:(if A7=true then ((bC.f k l0).bind fun A3=>(dJ.l0 k y101 A3 0)) else (some y101))=some r:=H;have A2:=aA.mk A20;clear A20
 by_cases c3:A7=true
 ·subst c3
  have H1:((bC.f k l0).bind fun A3=>(dJ.l0 k y101 A3 0))=some r:=by rw [if_pos rfl] at H;exact H
  clear H;have H:=H1;clear H1;replace H:=ob H;obtain ⟨A3,A40,H⟩:=H;replace H:(dJ.l0 k y101 A3 0)=some r:=H;have A4:=aA.mk A40;clear A40;have H':=aA.mk H;clear H
  go_enter Try.func128,Try.ntmps128
  go_wp2_with (first|((with_reducible refine bM (N:=6) rfl ?_);refine Kd.R_lit (Kd.int .i64) _ 3 ?hg (N:=6) ?hd (xs:=([]:List Int)) (inner:=[]) (ok:=fun _=>True) (okp:=fun _=>True) ?hr ?hp (fun _ hk=>hk) trivial (Below.refl _ _) (Nat.le_refl _) (by simp) ?_;(case hd=>rfl);(case hg=>rfl);(case hr=>first|(go_simp;done)|(go_simp;rfl));(case hp=>exact (cP.none _ _));intro v102 w5 ho6 hb hg_ hnew_;clear hg_ hnew_;(first|rw [← Ny101.out] at ho6|(simp only [Int.reduceToNat] at ho6;rw [← Ny101.out] at ho6));have A5:=aA.mk (Kd.R_lower ho6 (aM (tb HB)));replace HB:=aA.mk (aE (tb HB) hb);clear hb ho6)|((with_reducible refine aD (f:=104) rfl ?_);refine aT (some 8) rfl rfl Try.func104 (by kernel_rfl) rfl #[.slice A0 l0.length c0] rfl ml ?_;(with_reducible refine (cD.calls k _ _ l0 true _ ?side1 ?side2 A2.out).mono ?_);(case side1=>exact cw (Kd.C_below HR0.out HB.out));(case side2=>exact HC0.out);rintro e w7 ⟨rfl,hb⟩;refine ⟨_,rfl,?_⟩;replace A5:=aA.mk (Kd.R_below (ra A5) hb);replace HB:=aA.mk (aE (tb HB) hb);(try clear hb);(try clear hb2);(try clear hk);(try clear hi))|((with_reducible refine aD (f:=147) rfl ?_);refine aT (some 12) rfl rfl Try.func147 (by kernel_rfl) rfl #[.slice A0 l0.length c0] rfl ml ?_;(with_reducible refine (bC.calls k _ _ l0 A3 _ ?side1 ?side2 A4.out).mono ?_);(case side1=>exact cw (Kd.C_below HR0.out HB.out));(case side2=>exact HC0.out);rintro e w8 ⟨v106,rfl,ho0,hb⟩;refine ⟨_,rfl,?_⟩;replace A5:=aA.mk (Kd.R_below (ra A5) hb);have Aa:=aA.mk (Kd.R_lower ho0 (aM (tb HB)));replace HB:=aA.mk (aE (tb HB) hb);(try clear hb);(try clear hb2);(try clear hk);(try clear hi);(try clear ho0)))
  go_loopg [3,5] k (fun kq v3 v5 w'=>∃ (A6:List Int) (A1:Int),v5 = .int .i64 A1∧aA (dJ.l0 kq A6 A3 A1=some r)∧aA (kq≤k)∧aA (Kd.R (Kd.int .i64) 3 w' w.heap.size (fun _=>True) v3 A6)∧aA (Kd.R Kd.bool 4 w' w.heap.size (fun _=>True) v106 A3)∧aA (Below w.heap.size w w'))
  case atStart=>exact ⟨(y101),(0),(by first|rfl|(simp;done)|(simp [*];done)),H',⟨Nat.le_refl _⟩,⟨ra A5⟩,⟨ra Aa⟩,⟨by exact tb HB⟩⟩
  case round =>
   clear H';obtain ⟨A6,A1,rfl,HA,HK1,A9,A8,HB⟩:=hrel
   cases gk with
   | zero=>exact absurd HA.out (by simp [dJ.l0])
   | succ k1 =>
    have H:=HA.out;clear HA;simp only [dJ.l0] at H
    by_cases c9:A1 < 8
    ·rw [if_pos c9] at H;have c9b0:decide (A1 < 8)=true:=decide_eq_true c9;clear c9
     by_cases c10:0≤A1
     ·rw [if_pos c10] at H;have c10b0:decide (0≤A1)=true:=decide_eq_true c10;clear c10
      by_cases c11:A1 < (A3.length:Int)
      ·rw [if_pos c11] at H;have c11b0:decide (A1 < (A3.length:Int))=true:=decide_eq_true c11;clear c11;obtain ⟨bq12,hbq12⟩:∃ b_:Bool,b_=(cW false A3 A1):=⟨_,rfl⟩
       replace H:(if bq12=true then (if A6.length < 17592186044416 then (dJ.l0 k1 (A6 ++ [A1]) A3 (wrap64 (A1 + 1))) else (none)) else (dJ.l0 k1 A6 A3 (wrap64 (A1 + 1))))=some r:=by rw [← hbq12] at H;exact H
       have Nbq12:=aA.mk hbq12;clear hbq12
       by_cases c13:bq12=true
       ·subst c13
        have H1:(if A6.length < 17592186044416 then (dJ.l0 k1 (A6 ++ [A1]) A3 (wrap64 (A1 + 1))) else (none))=some r:=by rw [if_pos rfl] at H;exact H
        clear H;have H:=H1;clear H1
        by_cases c14:A6.length < 17592186044416
        ·rw [if_pos c14] at H;have LMc14:=aA.mk c14;clear c14;obtain ⟨y109,hy109⟩:∃ y_:List Int,y_=(A6 ++ [A1]):=⟨_,rfl⟩;replace H:(dJ.l0 k1 y109 A3 (wrap64 (A1 + 1)))=some r:=gM hy109 H;have Ny109:=aA.mk hy109;clear hy109;have H':=aA.mk H;clear H;obtain ⟨Ao15,co15,eo15⟩:=Kd.R_slice A8.out;subst eo15;have p108:0≤(A1:Int):=od;have q108:A1 < (A3.length:Int):=od;obtain ⟨ad108,e108,hx108_0⟩:=Kd.at_bool (Kd.R_reads' A8.out).2.2 A1 p108 q108
         (try rw [← Nbq12.out] at hx108_0)
         cases e108;replace p108:=eq_true p108;replace q108:=eq_true q108;go_wp2_with (first|((with_reducible refine cM (b := .append) (xs:=#[.tmp 21,.tmp 23]) rfl ?_);at_builtin;refine Kd.R_append (Kd.int .i64) (w0:=w) w.heap.size rfl (.tmp 21) (.tmp 23) 31 3 (.int .i64 0) 8 rfl Try.underlying31 info3 rfl (by decide) (by omega) u3 A6 A1 [.int .i64 A1] (fun _=>True) (fun _=>False) rfl rfl ?aP (fun _ hk=>hk.elim) ?aF ?aO ?aB ?aS ?aL ?_;(case aP=>exact rfl);(case aB=>exact (tb HB));(case aF=>exact (fun _ _=>trivial));(case aO=>exact (ra A9));(case aS=>exact (aM (tb HB)));(case aL=>have:=LMc14.out;omega);intro v110 w16 ho hb hg hat;rw [← Ny109.out] at ho;replace A8:=aA.mk (Kd.R_over' (ra A8) (Kd.R_typed (ra A9)) (by decide) hg);replace HB:=aA.mk (hb);have Ab:=aA.mk (ho);clear A9;clear ho hb hg hat));go_roundg k1
         case measure=>have:=HK1.out;omega
         case rel=>exact ⟨(y109),(wrap64 (A1 + 1)),(by first|rfl|(simp;done)|(simp [*];done)),H',⟨by have:=HK1.out;omega⟩,⟨ra Ab⟩,⟨ra A8⟩,⟨by exact tb HB⟩⟩
        ·rw [if_neg c14] at H;exact absurd H (by simp)
       ·replace c13:=Bool.eq_false_iff.mpr c13;subst c13
        have H1:(dJ.l0 k1 A6 A3 (wrap64 (A1 + 1)))=some r:=by rw [if_neg (show ¬ (false=true) by decide)] at H;exact H
        clear H;have H:=H1;clear H1;have H':=aA.mk H;clear H;obtain ⟨Ao17,co17,eo17⟩:=Kd.R_slice A8.out;subst eo17;have p108:0≤(A1:Int):=od;have q108:A1 < (A3.length:Int):=od;obtain ⟨ad108,e108,hx108_0⟩:=Kd.at_bool (Kd.R_reads' A8.out).2.2 A1 p108 q108
        (try rw [← Nbq12.out] at hx108_0)
        cases e108;replace p108:=eq_true p108;replace q108:=eq_true q108;go_wp2;go_roundg k1
        case measure=>have:=HK1.out;omega
        case rel=>exact ⟨(A6),(wrap64 (A1 + 1)),(by first|rfl|(simp;done)|(simp [*];done)),H',⟨by have:=HK1.out;omega⟩,⟨ra A9⟩,⟨ra A8⟩,⟨by exact tb HB⟩⟩
      ·rw [if_neg c11] at H;exact absurd H (by simp)
     ·rw [if_neg c10] at H;exact absurd H (by simp)
    ·rw [if_neg c9] at H;have c9b0:decide (A1 < 8)=false:=decide_eq_false c9;clear c9;obtain rfl:=os H;go_wp2;go_ret;exact ⟨_,er,ra A9,tb HB⟩
 ·replace c3:=Bool.eq_false_iff.mpr c3;subst c3
  have H1:(some y101)=some r:=by rw [if_neg (show ¬ (false=true) by decide)] at H;exact H
  clear H;have H:=H1;clear H1;obtain rfl:=os H
  go_enter Try.func128,Try.ntmps128
  go_wp2_with (first|((with_reducible refine bM (N:=6) rfl ?_);refine Kd.R_lit (Kd.int .i64) _ 3 ?hg (N:=6) ?hd (xs:=([]:List Int)) (inner:=[]) (ok:=fun _=>True) (okp:=fun _=>True) ?hr ?hp (fun _ hk=>hk) trivial (Below.refl _ _) (Nat.le_refl _) (by simp) ?_;(case hd=>rfl);(case hg=>rfl);(case hr=>first|(go_simp;done)|(go_simp;rfl));(case hp=>exact (cP.none _ _));intro v102 w18 ho19 hb hg_ hnew_;clear hg_ hnew_;(first|rw [← Ny101.out] at ho19|(simp only [Int.reduceToNat] at ho19;rw [← Ny101.out] at ho19));have A5:=aA.mk (Kd.R_lower ho19 (aM (tb HB)));replace HB:=aA.mk (aE (tb HB) hb);clear hb ho19)|((with_reducible refine aD (f:=104) rfl ?_);refine aT (some 8) rfl rfl Try.func104 (by kernel_rfl) rfl #[.slice A0 l0.length c0] rfl ml ?_;(with_reducible refine (cD.calls k _ _ l0 false _ ?side1 ?side2 A2.out).mono ?_);(case side1=>exact cw (Kd.C_below HR0.out HB.out));(case side2=>exact HC0.out);rintro e w20 ⟨rfl,hb⟩;refine ⟨_,rfl,?_⟩;replace A5:=aA.mk (Kd.R_below (ra A5) hb);replace HB:=aA.mk (aE (tb HB) hb);(try clear hb);(try clear hb2);(try clear hk);(try clear hi)));go_ret;exact ⟨_,er,ra A5,tb HB⟩
mutual
def bP.l0:Nat→List (bN)→List Bool→Int→Option (List Bool)
 | 0,_,_,_=>none
 | k + 1,x0,x3,x4=>if x4 < (x0.length:Int) then (if 0≤x4 then ((bR.f ((aC x0 x4).f0)).bind fun Aa=>((cI.f k ((aC x0 x4).f0) ((aC x0 x4).f1) ((aC x0 x4).f2) ((aC x0 x4).f3) ((aC x0 x4).f4) ((aC x0 x4).f5)).bind fun A3=>(bP.l1 k x0 x3 x4 Aa A3 0))) else (none)) else (some x3)
def bP.l1:Nat→List (bN)→List Bool→Int→Bool→List Int→Int→Option (List Bool)
 | 0,_,_,_,_,_,_=>none
 | k + 1,x0,x3,x4,x5,x6,x7=>if x7 < (x6.length:Int) then (if x5=true then (bP.l1 k x0 x3 x4 true x6 (wrap64 (x7 + 1))) else (if 0≤x7 then (if 0≤(rd x6 x7) then (if (rd x6 x7) < (x3.length:Int) then (bP.l1 k x0 x3 x4 (cW false x3 (rd x6 x7)) x6 (wrap64 (x7 + 1))) else (none)) else (none)) else (none))) else (if x3.length < 140737488355328 then (bP.l0 k x0 (x3 ++ [x5]) (wrap64 (x4 + 1))) else (none))
end
def bP.f (k:Nat) (l0:List (bN)):Option (List Bool):=bP.l0 k l0 (([]:List Bool)) 0
theorem bP.calls (k:Nat) (A0:Option Addr) (c0:Nat) (l0:List (bN)) (r:List Bool) (w:World) (hr0:Kd.C eV w A0 l0.length l0) (hc0:l0.length≤c0) (h:bP.f k l0=some r) :
  Calls Try.prog 98 #[.slice A0 l0.length c0] w fun e w'=>∃ v0_:Value,e = .returned (v0_)∧Kd.R Kd.bool 4 w' w.heap.size (fun _=>True) v0_ r∧Below w.heap.size w w':=by
 have hu99:=Try.underlying99;have HR0:=aA.mk hr0;have HC0:=aA.mk hc0;clear hr0 hc0;have HB:=aA.mk (Below.refl w.heap.size w);have H:(bP.l0 k l0 (([]:List Bool)) 0)=some r:=h;clear h;obtain ⟨y101,hy101⟩:∃ y_:List Bool,y_=(([]:List Bool)):=⟨_,rfl⟩;replace H:(bP.l0 k l0 y101 0)=some r:=gM hy101 H;have Ny101:=aA.mk hy101;clear hy101;have H':=aA.mk H;clear H
 go_enter Try.func98,Try.ntmps98
 go_wp2_with (first|((with_reducible refine bM (N:=8) rfl ?_);refine Kd.R_lit Kd.bool _ 4 ?hg (N:=8) ?hd (xs:=([]:List Bool)) (inner:=[]) (ok:=fun _=>True) (okp:=fun _=>True) ?hr ?hp (fun _ hk=>hk) trivial (Below.refl _ _) (Nat.le_refl _) (by simp) ?_;(case hd=>rfl);(case hg=>rfl);(case hr=>first|(go_simp;done)|(go_simp;rfl));(case hp=>exact (cP.none _ _));intro v102 w2 ho3 hb hg_ hnew_;clear hg_ hnew_;(first|rw [← Ny101.out] at ho3|(simp only [Int.reduceToNat] at ho3;rw [← Ny101.out] at ho3));have Ab:=aA.mk (Kd.R_lower ho3 (aM (tb HB)));replace HB:=aA.mk (aE (tb HB) hb);clear hb ho3))
 go_loopg [3,4] k (fun kq v3 v4 w'=>∃ (A4:List Bool) (A1:Int),v4 = .int .i64 A1∧aA (bP.l0 kq l0 A4 A1=some r)∧aA (kq≤k)∧aA (Kd.R Kd.bool 4 w' w.heap.size (fun _=>True) v3 A4)∧aA (Below w.heap.size w w'))
 case atStart=>exact ⟨(y101),(0),(by first|rfl|(simp;done)|(simp [*];done)),H',⟨Nat.le_refl _⟩,⟨ra Ab⟩,⟨by exact tb HB⟩⟩
 case round =>
  clear H';obtain ⟨A4,A1,rfl,HA,HK1,A5,HB⟩:=hrel
  cases gk with
  | zero=>exact absurd HA.out (by simp [bP.l0])
  | succ k1 =>
   have H:=HA.out;clear HA;simp only [bP.l0] at H
   by_cases c4:A1 < (l0.length:Int)
   ·rw [if_pos c4] at H;have c4b0:decide (A1 < (l0.length:Int))=true:=decide_eq_true c4;clear c4
    by_cases c5:0≤A1
    ·rw [if_pos c5] at H;have c5b0:decide (0≤A1)=true:=decide_eq_true c5;clear c5;replace H:=ob H;obtain ⟨Aa,A60,H⟩:=H
     try dsimp only at H
     have A6:=aA.mk A60;clear A60;replace H:=ob H;obtain ⟨A3,A70,H⟩:=H;replace H:(bP.l1 k1 l0 A4 A1 Aa A3 0)=some r:=H;have A7:=aA.mk A70;clear A70;have H':=aA.mk H;clear H;have p104:0≤(A1:Int):=od;have q104:A1 < (l0.length:Int):=od;obtain ⟨ad104,e104,hx104_0,hx104_1,hx104_2,hx104_3,hx104_4,hx104_5⟩:=dD HR0.out A1 p104 q104;cases e104;replace hx104_0:=ct HB hx104_0;replace hx104_1:=ct HB hx104_1;replace hx104_2:=ct HB hx104_2;replace hx104_3:=ct HB hx104_3;replace hx104_4:=ct HB hx104_4;replace hx104_5:=ct HB hx104_5;replace p104:=eq_true p104;replace q104:=eq_true q104;go_wp2_with (first|((with_reducible refine aD (f:=103) rfl ?_);refine aT (some 20) rfl rfl Try.func103 (by kernel_rfl) rfl #[.int .i64 ((aC l0 A1).f0)] rfl ml ?_;(with_reducible refine (bR.calls ((aC l0 A1).f0) Aa _ A6.out).mono ?_);rintro e w' ⟨rfl,⟨nd,rfl⟩⟩;refine ⟨_,rfl,?_⟩;have p106:0≤(A1:Int):=od;have q106:A1 < (l0.length:Int):=od;obtain ⟨ad106,e106,hx106_0,hx106_1,hx106_2,hx106_3,hx106_4,hx106_5⟩:=dD HR0.out A1 p106 q106;obtain rfl:ad104=ad106:=(by injection e106);replace hx106_0:=ct HB hx106_0;replace hx106_1:=ct HB hx106_1;replace hx106_2:=ct HB hx106_2;replace hx106_3:=ct HB hx106_3;replace hx106_4:=ct HB hx106_4;replace hx106_5:=ct HB hx106_5;replace p106:=eq_true p106;replace q106:=eq_true q106)|((with_reducible refine aD (f:=99) rfl ?_);refine aT (some 25) rfl rfl Try.func99 (by kernel_rfl) rfl #[.agg #[.int .i64 ((aC l0 A1).f0),.int .i64 ((aC l0 A1).f1),.int .i64 ((aC l0 A1).f2),.int .i64 ((aC l0 A1).f3),.int .i64 ((aC l0 A1).f4),.int .i64 ((aC l0 A1).f5)]] rfl ml ?_;(with_reducible refine (cI.calls k1 ((aC l0 A1).f0) ((aC l0 A1).f1) ((aC l0 A1).f2) ((aC l0 A1).f3) ((aC l0 A1).f4) ((aC l0 A1).f5) A3 _ A7.out).mono ?_);rintro e w8 ⟨v108,rfl,ho0,hb⟩;refine ⟨_,rfl,?_⟩;replace A5:=aA.mk (Kd.R_below (ra A5) hb);have Ac:=aA.mk (Kd.R_lower ho0 (aM (tb HB)));replace HB:=aA.mk (aE (tb HB) hb);(try clear hb);(try clear hb2);(try clear hk);(try clear hi);(try clear ho0)))
     go_loopg [5,7] k1 (fun kq v5 v7 w'=>∃ (A9:Bool) (A2:Int),v5 = .bool A9∧v7 = .int .i64 A2∧aA (bP.l1 kq l0 A4 A1 A9 A3 A2=some r)∧aA (kq≤k1)∧aA (Kd.R Kd.bool 4 w' w.heap.size (fun _=>True) u3 A4)∧aA (Kd.R (Kd.int .i64) 3 w' w.heap.size (fun _=>True) v108 A3)∧aA (Below w.heap.size w w'))
     case atStart=>exact ⟨(Aa),(0),(by first|rfl|(simp;done)|(simp [*];done)),(by first|rfl|(simp;done)|(simp [*];done)),H',⟨Nat.le_refl _⟩,⟨ra A5⟩,⟨ra Ac⟩,⟨by exact tb HB⟩⟩
     case round =>
      clear H';obtain ⟨A9,A2,rfl,rfl,HA,HK2,A5,A8,HB⟩:=hrel
      cases gk with
      | zero=>exact absurd HA.out (by simp [bP.l1])
      | succ k2 =>
       have H:=HA.out;clear HA;simp only [bP.l1] at H
       by_cases c9:A2 < (A3.length:Int)
       ·rw [if_pos c9] at H;have c9b0:decide (A2 < (A3.length:Int))=true:=decide_eq_true c9;clear c9
        by_cases c10:A9=true
        ·subst c10
         have H1:(bP.l1 k2 l0 A4 A1 true A3 (wrap64 (A2 + 1)))=some r:=by rw [if_pos rfl] at H;exact H
         clear H;have H:=H1;clear H1;have H':=aA.mk H;clear H;obtain ⟨Ao11,co11,eo11⟩:=Kd.R_slice A8.out;subst eo11;go_wp2;go_roundg k2
         case measure=>have:=HK1.out;have:=HK2.out;omega
         case rel=>exact ⟨(true),(wrap64 (A2 + 1)),(by first|rfl|(simp;done)|(simp [*];done)),(by first|rfl|(simp;done)|(simp [*];done)),H',⟨by have:=HK1.out;have:=HK2.out;omega⟩,⟨ra A5⟩,⟨ra A8⟩,⟨by exact tb HB⟩⟩
        ·replace c10:=Bool.eq_false_iff.mpr c10;subst c10
         have H1:(if 0≤A2 then (if 0≤(rd A3 A2) then (if (rd A3 A2) < (A4.length:Int) then (bP.l1 k2 l0 A4 A1 (cW false A4 (rd A3 A2)) A3 (wrap64 (A2 + 1))) else (none)) else (none)) else (none))=some r:=by rw [if_neg (show ¬ (false=true) by decide)] at H;exact H
         clear H;have H:=H1;clear H1
         by_cases c12:0≤A2
         ·rw [if_pos c12] at H;have c12b0:decide (0≤A2)=true:=decide_eq_true c12;clear c12
          by_cases c13:0≤(rd A3 A2)
          ·rw [if_pos c13] at H;have c13b0:decide (0≤(rd A3 A2))=true:=decide_eq_true c13;clear c13
           by_cases c14:(rd A3 A2) < (A4.length:Int)
           ·rw [if_pos c14] at H;have c14b0:decide ((rd A3 A2) < (A4.length:Int))=true:=decide_eq_true c14;clear c14;have H':=aA.mk H;clear H;obtain ⟨Ao15,co15,eo15⟩:=Kd.R_slice A8.out;subst eo15;have p110:0≤(A2:Int):=od;have q110:A2 < (A3.length:Int):=od;obtain ⟨ad110,e110,hx110_0⟩:=Kd.at_int (Kd.R_reads' A8.out).2.2 A2 p110 q110;cases e110;replace p110:=eq_true p110;replace q110:=eq_true q110;obtain ⟨Ao16,co16,eo16⟩:=Kd.R_slice A5.out;subst eo16;have p111:0≤((rd A3 A2):Int):=od;have q111:(rd A3 A2) < (A4.length:Int):=od;obtain ⟨ad111,e111,hx111_0⟩:=Kd.at_bool (Kd.R_reads' A5.out).2.2 (rd A3 A2) p111 q111;cases e111;replace p111:=eq_true p111;replace q111:=eq_true q111;go_wp2;go_roundg k2
            case measure=>have:=HK1.out;have:=HK2.out;omega
            case rel=>exact ⟨(cW false A4 (rd A3 A2)),(wrap64 (A2 + 1)),(by first|rfl|(simp;done)|(simp [*];done)),(by first|rfl|(simp;done)|(simp [*];done)),H',⟨by have:=HK1.out;have:=HK2.out;omega⟩,⟨ra A5⟩,⟨ra A8⟩,⟨by exact tb HB⟩⟩
           ·rw [if_neg c14] at H;exact absurd H (by simp)
          ·rw [if_neg c13] at H;exact absurd H (by simp)
         ·rw [if_neg c12] at H;exact absurd H (by simp)
       ·rw [if_neg c9] at H;have c9b0:decide (A2 < (A3.length:Int))=false:=decide_eq_false c9;clear c9
        by_cases c17:A4.length < 140737488355328
        ·rw [if_pos c17] at H;have LMc17:=aA.mk c17;clear c17;obtain ⟨y112,hy112⟩:∃ y_:List Bool,y_=(A4 ++ [A9]):=⟨_,rfl⟩;replace H:(bP.l0 k2 l0 y112 (wrap64 (A1 + 1)))=some r:=gM hy112 H;have Ny112:=aA.mk hy112;clear hy112;have H':=aA.mk H;clear H;obtain ⟨Ao18,co18,eo18⟩:=Kd.R_slice A8.out;subst eo18;go_wp2_with (first|((with_reducible refine cM (b := .append) (xs:=#[.tmp 42,.tmp 44]) rfl ?_);at_builtin;refine Kd.R_append Kd.bool (w0:=w) w.heap.size rfl (.tmp 42) (.tmp 44) 24 4 (.bool false) 1 rfl Try.underlying24 mB rfl (by decide) (by omega) u3 A4 A9 [.bool A9] (fun _=>True) (fun _=>False) rfl rfl ?aP (fun _ hk=>hk.elim) ?aF ?aO ?aB ?aS ?aL ?_;(case aP=>exact rfl);(case aB=>exact (tb HB));(case aF=>exact (fun _ _=>trivial));(case aO=>exact (ra A5));(case aS=>exact (aM (tb HB)));(case aL=>have:=LMc17.out;omega);intro v113 w19 ho hb hg hat;rw [← Ny112.out] at ho;replace A8:=aA.mk (Kd.R_over' (ra A8) (Kd.R_typed (ra A5)) (by decide) hg);replace HB:=aA.mk (hb);have Ad:=aA.mk (ho);clear A5;clear ho hb hg hat));go_roundg k2
         case measure=>have:=HK1.out;have:=HK2.out;omega
         case rel=>exact ⟨(y112),(wrap64 (A1 + 1)),(by first|rfl|(simp;done)|(simp [*];done)),H',⟨by have:=HK1.out;have:=HK2.out;omega⟩,⟨ra Ad⟩,⟨by exact tb HB⟩⟩
        ·rw [if_neg c17] at H;exact absurd H (by simp)
    ·rw [if_neg c5] at H;exact absurd H (by simp)
   ·rw [if_neg c4] at H;have c4b0:decide (A1 < (l0.length:Int))=false:=decide_eq_false c4;clear c4;obtain rfl:=os H;go_wp2;go_ret;exact ⟨_,er,ra A5,tb HB⟩
mutual
def bG.l0:Nat→List (bN)→List Bool→Int→Option (List Bool)
 | 0,_,_,_=>none
 | k + 1,x0,x3,x4=>if x4 < (x0.length:Int) then (if x3.length < 140737488355328 then (bG.l0 k x0 (x3 ++ [(x4 == (wrap64 ((x0.length:Int) - 1)))]) (wrap64 (x4 + 1))) else (none)) else (bG.l1 k x0 x3 (wrap64 ((x0.length:Int) - 1)))
def bG.l1:Nat→List (bN)→List Bool→Int→Option (List Bool)
 | 0,_,_,_=>none
 | k + 1,x0,x3,x5=>if x5 ≥ 0 then (if 0≤x5 then (if x5 < (x0.length:Int) then ((cI.f k ((aC x0 x5).f0) ((aC x0 x5).f1) ((aC x0 x5).f2) ((aC x0 x5).f3) ((aC x0 x5).f4) ((aC x0 x5).f5)).bind fun A3=>(bG.l2 k x0 x3 x5 A3 0)) else (none)) else (none)) else (some x3)
def bG.l2:Nat→List (bN)→List Bool→Int→List Int→Int→Option (List Bool)
 | 0,_,_,_,_,_=>none
 | k + 1,x0,x3,x5,x6,x7=>if x7 < (x6.length:Int) then (if 0≤x5 then (if x5 < (x3.length:Int) then (if cW false x3 x5=true then (if 0≤x7 then (if 0≤(rd x6 x7) then (if (rd x6 x7) < (x3.length:Int) then (bG.l2 k x0 (x3.set ((rd x6 x7):Int).toNat true) x5 x6 (wrap64 (x7 + 1))) else (none)) else (none)) else (none)) else (bG.l1 k x0 x3 (wrap64 (x5 - 1)))) else (none)) else (none)) else (bG.l1 k x0 x3 (wrap64 (x5 - 1)))
end
def bG.f (k:Nat) (l0:List (bN)):Option (List Bool):=bG.l0 k l0 (([]:List Bool)) 0
theorem bG.calls (k:Nat) (A0:Option Addr) (c0:Nat) (l0:List (bN)) (r:List Bool) (w:World) (hr0:Kd.C eV w A0 l0.length l0) (hc0:l0.length≤c0) (h:bG.f k l0=some r) :
  Calls Try.prog 102 #[.slice A0 l0.length c0] w fun e w'=>∃ v0_:Value,e = .returned (v0_)∧Kd.R Kd.bool 4 w' w.heap.size (fun _=>True) v0_ r∧Below w.heap.size w w':=by
 have hu99:=Try.underlying99;have HR0:=aA.mk hr0;have HC0:=aA.mk hc0;clear hr0 hc0;have HB:=aA.mk (Below.refl w.heap.size w);have H:(bG.l0 k l0 (([]:List Bool)) 0)=some r:=h;clear h;obtain ⟨y101,hy101⟩:∃ y_:List Bool,y_=(([]:List Bool)):=⟨_,rfl⟩;replace H:(bG.l0 k l0 y101 0)=some r:=gM hy101 H;have Ny101:=aA.mk hy101;clear hy101;have H':=aA.mk H;clear H
 go_enter Try.func102,Try.ntmps102
 go_wp2_with (first|((with_reducible refine bM (N:=8) rfl ?_);refine Kd.R_lit Kd.bool _ 4 ?hg (N:=8) ?hd (xs:=([]:List Bool)) (inner:=[]) (ok:=fun _=>True) (okp:=fun _=>True) ?hr ?hp (fun _ hk=>hk) trivial (Below.refl _ _) (Nat.le_refl _) (by simp) ?_;(case hd=>rfl);(case hg=>rfl);(case hr=>first|(go_simp;done)|(go_simp;rfl));(case hp=>exact (cP.none _ _));intro v102 w2 ho3 hb hg_ hnew_;clear hg_ hnew_;(first|rw [← Ny101.out] at ho3|(simp only [Int.reduceToNat] at ho3;rw [← Ny101.out] at ho3));have Aa:=aA.mk (Kd.R_lower ho3 (aM (tb HB)));replace HB:=aA.mk (aE (tb HB) hb);clear hb ho3))
 go_loopg [3,4] k (fun kq v3 v4 w'=>∃ (A7:List Bool) (A6:Int),v4 = .int .i64 A6∧aA (bG.l0 kq l0 A7 A6=some r)∧aA (kq≤k)∧aA (Kd.R Kd.bool 4 w' w.heap.size (fun _=>True) v3 A7)∧aA (Below w.heap.size w w'))
 case atStart=>exact ⟨(y101),(0),(by first|rfl|(simp;done)|(simp [*];done)),H',⟨Nat.le_refl _⟩,⟨ra Aa⟩,⟨by exact tb HB⟩⟩
 case round =>
  clear H';obtain ⟨A7,A6,rfl,HA,HK1,A5,HB⟩:=hrel
  cases gk with
  | zero=>exact absurd HA.out (by simp [bG.l0])
  | succ k1 =>
   have H:=HA.out;clear HA;simp only [bG.l0] at H
   by_cases c4:A6 < (l0.length:Int)
   ·rw [if_pos c4] at H;have c4b0:decide (A6 < (l0.length:Int))=true:=decide_eq_true c4;clear c4
    by_cases c5:A7.length < 140737488355328
    ·rw [if_pos c5] at H;have LMc5:=aA.mk c5;clear c5;obtain ⟨y104,hy104⟩:∃ y_:List Bool,y_=(A7 ++ [(A6 == (wrap64 ((l0.length:Int) - 1)))]):=⟨_,rfl⟩;replace H:(bG.l0 k1 l0 y104 (wrap64 (A6 + 1)))=some r:=gM hy104 H;have Ny104:=aA.mk hy104;clear hy104;have H':=aA.mk H;clear H;go_wp2_with (first|((with_reducible refine cM (b := .append) (xs:=#[.tmp 15,.tmp 21]) rfl ?_);at_builtin;refine Kd.R_append Kd.bool (w0:=w) w.heap.size rfl (.tmp 15) (.tmp 21) 24 4 (.bool false) 1 rfl Try.underlying24 mB rfl (by decide) (by omega) u3 A7 (A6 == (wrap64 ((l0.length:Int) - 1))) [.bool (A6 == (wrap64 ((l0.length:Int) - 1)))] (fun _=>True) (fun _=>False) rfl rfl ?aP (fun _ hk=>hk.elim) ?aF ?aO ?aB ?aS ?aL ?_;(case aP=>exact rfl);(case aB=>exact (tb HB));(case aF=>exact (fun _ _=>trivial));(case aO=>exact (ra A5));(case aS=>exact (aM (tb HB)));(case aL=>have:=LMc5.out;omega);intro v105 w6 ho hb hg hat;rw [← Ny104.out] at ho;replace HB:=aA.mk (hb);have Ab:=aA.mk (ho);clear A5;clear ho hb hg hat));go_roundg k1
     case measure=>have:=HK1.out;omega
     case rel=>exact ⟨(y104),(wrap64 (A6 + 1)),(by first|rfl|(simp;done)|(simp [*];done)),H',⟨by have:=HK1.out;omega⟩,⟨ra Ab⟩,⟨by exact tb HB⟩⟩
    ·rw [if_neg c5] at H;exact absurd H (by simp)
   ·rw [if_neg c4] at H;have c4b0:decide (A6 < (l0.length:Int))=false:=decide_eq_false c4;clear c4;have H':=aA.mk H;clear H;go_wp2
    go_loopg [5] k1 (fun kq v5 w'=>∃ (A9:List Bool) (A1:Int),v5 = .int .i64 A1∧aA (bG.l1 kq l0 A9 A1=some r)∧aA (kq≤k1)∧aA (Kd.R Kd.bool 4 w' w.heap.size (fun _=>True) u3 A9)∧aA (Below w.heap.size w w'))
    case atStart=>exact ⟨(A7),(wrap64 ((l0.length:Int) - 1)),(by first|rfl|(simp;done)|(simp [*];done)),H',⟨Nat.le_refl _⟩,⟨ra A5⟩,⟨by exact tb HB⟩⟩
    case round =>
     clear H';obtain ⟨A9,A1,rfl,HA,HK2,A5,HB⟩:=hrel
     cases gk with
     | zero=>exact absurd HA.out (by simp [bG.l1])
     | succ k2 =>
      have H:=HA.out;clear HA;simp only [bG.l1] at H
      by_cases c7:A1 ≥ 0
      ·rw [if_pos c7] at H;have c7b0:decide (0≤A1)=true:=decide_eq_true c7;clear c7
       by_cases c8:0≤A1
       ·rw [if_pos c8] at H;have c8b0:decide (0≤A1)=true:=decide_eq_true c8;clear c8
        by_cases c9:A1 < (l0.length:Int)
        ·rw [if_pos c9] at H;have c9b0:decide (A1 < (l0.length:Int))=true:=decide_eq_true c9;clear c9;replace H:=ob H;obtain ⟨A3,A100,H⟩:=H;replace H:(bG.l2 k2 l0 A9 A1 A3 0)=some r:=H;have A10:=aA.mk A100;clear A100;have H':=aA.mk H;clear H;have p107:0≤(A1:Int):=od;have q107:A1 < (l0.length:Int):=od;obtain ⟨ad107,e107,hx107_0,hx107_1,hx107_2,hx107_3,hx107_4,hx107_5⟩:=dD HR0.out A1 p107 q107;cases e107;replace hx107_0:=ct HB hx107_0;replace hx107_1:=ct HB hx107_1;replace hx107_2:=ct HB hx107_2;replace hx107_3:=ct HB hx107_3;replace hx107_4:=ct HB hx107_4;replace hx107_5:=ct HB hx107_5;replace p107:=eq_true p107;replace q107:=eq_true q107;go_wp2_with (first|((with_reducible refine aD (f:=99) rfl ?_);refine aT (some 34) rfl rfl Try.func99 (by kernel_rfl) rfl #[.agg #[.int .i64 ((aC l0 A1).f0),.int .i64 ((aC l0 A1).f1),.int .i64 ((aC l0 A1).f2),.int .i64 ((aC l0 A1).f3),.int .i64 ((aC l0 A1).f4),.int .i64 ((aC l0 A1).f5)]] rfl ml ?_;(with_reducible refine (cI.calls k2 ((aC l0 A1).f0) ((aC l0 A1).f1) ((aC l0 A1).f2) ((aC l0 A1).f3) ((aC l0 A1).f4) ((aC l0 A1).f5) A3 _ A10.out).mono ?_);rintro e w11 ⟨v109,rfl,ho0,hb⟩;refine ⟨_,rfl,?_⟩;replace A5:=aA.mk (Kd.R_below (ra A5) hb);have Ac:=aA.mk (Kd.R_lower ho0 (aM (tb HB)));replace HB:=aA.mk (aE (tb HB) hb);(try clear hb);(try clear hb2);(try clear hk);(try clear hi);(try clear ho0)))
         go_loopg [7] k2 (fun kq v7 w'=>∃ (A4:List Bool) (A2:Int),v7 = .int .i64 A2∧aA (bG.l2 kq l0 A4 A1 A3 A2=some r)∧aA (kq≤k2)∧aA (Kd.R Kd.bool 4 w' w.heap.size (fun _=>True) u3 A4)∧aA (Kd.R (Kd.int .i64) 3 w' w.heap.size (fun _=>True) v109 A3)∧aA (Below w.heap.size w w'))
         case atStart=>exact ⟨(A9),(0),(by first|rfl|(simp;done)|(simp [*];done)),H',⟨Nat.le_refl _⟩,⟨ra A5⟩,⟨ra Ac⟩,⟨by exact tb HB⟩⟩
         case round =>
          clear H';obtain ⟨A4,A2,rfl,HA,HK3,A5,A8,HB⟩:=hrel
          cases gk with
          | zero=>exact absurd HA.out (by simp [bG.l2])
          | succ k3 =>
           have H:=HA.out;clear HA;simp only [bG.l2] at H
           by_cases c12:A2 < (A3.length:Int)
           ·rw [if_pos c12] at H;have c12b0:decide (A2 < (A3.length:Int))=true:=decide_eq_true c12;clear c12
            by_cases c13:0≤A1
            ·rw [if_pos c13] at H;have c13b0:decide (0≤A1)=true:=decide_eq_true c13;clear c13
             by_cases c14:A1 < (A4.length:Int)
             ·rw [if_pos c14] at H;have c14b0:decide (A1 < (A4.length:Int))=true:=decide_eq_true c14;clear c14;obtain ⟨bq15,hbq15⟩:∃ b_:Bool,b_=(cW false A4 A1):=⟨_,rfl⟩
              replace H:(if bq15=true then (if 0≤A2 then (if 0≤(rd A3 A2) then (if (rd A3 A2) < (A4.length:Int) then (bG.l2 k3 l0 (A4.set ((rd A3 A2):Int).toNat true) A1 A3 (wrap64 (A2 + 1))) else (none)) else (none)) else (none)) else (bG.l1 k3 l0 A4 (wrap64 (A1 - 1))))=some r:=by rw [← hbq15] at H;exact H
              have Nbq15:=aA.mk hbq15;clear hbq15
              by_cases c16:bq15=true
              ·subst c16
               have H1:(if 0≤A2 then (if 0≤(rd A3 A2) then (if (rd A3 A2) < (A4.length:Int) then (bG.l2 k3 l0 (A4.set ((rd A3 A2):Int).toNat true) A1 A3 (wrap64 (A2 + 1))) else (none)) else (none)) else (none))=some r:=by rw [if_pos rfl] at H;exact H
               clear H;have H:=H1;clear H1
               by_cases c17:0≤A2
               ·rw [if_pos c17] at H;have c17b0:decide (0≤A2)=true:=decide_eq_true c17;clear c17
                by_cases c18:0≤(rd A3 A2)
                ·rw [if_pos c18] at H;have c18b0:decide (0≤(rd A3 A2))=true:=decide_eq_true c18;clear c18
                 by_cases c19:(rd A3 A2) < (A4.length:Int)
                 ·rw [if_pos c19] at H;have c19b0:decide ((rd A3 A2) < (A4.length:Int))=true:=decide_eq_true c19;clear c19;obtain ⟨y113,hy113⟩:∃ y_:List Bool,y_=(A4.set ((rd A3 A2):Int).toNat true):=⟨_,rfl⟩;replace H:(bG.l2 k3 l0 y113 A1 A3 (wrap64 (A2 + 1)))=some r:=gM hy113 H;have Ny113:=aA.mk hy113;clear hy113;have H':=aA.mk H;clear H;obtain ⟨Ao21,co21,eo21⟩:=Kd.R_slice A8.out;subst eo21;obtain ⟨Ao22,Ad,eo22⟩:=Kd.R_slice A5.out;subst eo22;have p111:0≤(A1:Int):=od;have q111:A1 < (A4.length:Int):=od;obtain ⟨ad111,e111,hx111_0⟩:=Kd.at_bool (Kd.R_reads' A5.out).2.2 A1 p111 q111
                  (try rw [← Nbq15.out] at hx111_0)
                  cases e111;replace p111:=eq_true p111;replace q111:=eq_true q111;have p112:0≤(A2:Int):=od;have q112:A2 < (A3.length:Int):=od;obtain ⟨ad112,e112,hx112_0⟩:=Kd.at_int (Kd.R_reads' A8.out).2.2 A2 p112 q112;cases e112;replace p112:=eq_true p112;replace q112:=eq_true q112;have p20:0≤((rd A3 A2):Int):=od;have q20:((rd A3 A2):Int) < ((A4.length:Int):Int):=od;obtain ⟨go20,co20,eo20,Ae,gl20,cl20,HG20⟩:=Kd.R_form A5.out (by omega);(first|cases eo20|(injection eo20 with ea_ en_ ec_;(first|subst ea_|(injection ea_ with ea_;subst ea_));subst ec_;clear en_));have GB20:=aA.mk Ae;have GG20:=aA.mk HG20;clear Ae gl20 HG20;(first|simp only [add_plain] at hx111_0|skip);obtain ⟨hx20_0,hf20_0⟩:=Kd.R_celln false A5.out ((rd A3 A2):Int) p20 q20;replace p20:=eq_true p20;replace q20:=eq_true q20;have HP23:=Kd.R_putg A5.out ((rd A3 A2):Int) true;go_wp2_with (first|((with_reducible refine jW (t:=4) (p:=52) rfl ?_);refine iX (t:=4) (p:=52) (v:=?vo_w24) (w1:=(wr.setCell ⟨go20,((rd A3 A2):Int).toNat,none⟩ (.bool true))) ?hg ?ho ?hn ?hr ?_;(case ho=>rfl);(case hg=>rfl);(case hn=>rfl);(case hr=>first|(go_simp;done)|(go_simp;rfl));intro w24 hw;have hg:wr.grownBy w24 (some go20):=(by rw [hw];exact HP23.2);have hp_:Kd.R Kd.bool 4 w24 w.heap.size (fun _=>True) (.slice (some ⟨go20,0,none⟩) A4.length Ad) y113:=(by rw [hw,Ny113.out];exact HP23.1);clear HP23;replace A8:=aA.mk (Kd.R_over' (v:=(.slice (some ⟨go20,0,none⟩) A4.length Ad)) (ra A8) (Kd.R_typed A5.out) (by decide) hg);replace A5:=aA.mk (hp_);replace HB:=aA.mk ((by rw [hw];exact aZ (HB.out) GB20.out:Below w.heap.size w w24));clear hg hw hp_));go_roundg k3
                  case measure=>have:=HK1.out;have:=HK2.out;have:=HK3.out;omega
                  case rel=>exact ⟨(y113),(wrap64 (A2 + 1)),(by first|rfl|(simp;done)|(simp [*];done)),H',⟨by have:=HK1.out;have:=HK2.out;have:=HK3.out;omega⟩,⟨ra A5⟩,⟨ra A8⟩,⟨by exact tb HB⟩⟩
                 ·rw [if_neg c19] at H;exact absurd H (by simp)
                ·rw [if_neg c18] at H;exact absurd H (by simp)
               ·rw [if_neg c17] at H;exact absurd H (by simp)
              ·replace c16:=Bool.eq_false_iff.mpr c16;subst c16
               have H1:(bG.l1 k3 l0 A4 (wrap64 (A1 - 1)))=some r:=by rw [if_neg (show ¬ (false=true) by decide)] at H;exact H
               clear H;have H:=H1;clear H1;have H':=aA.mk H;clear H;obtain ⟨Ao25,co25,eo25⟩:=Kd.R_slice A8.out;subst eo25;obtain ⟨Ao26,co26,eo26⟩:=Kd.R_slice A5.out;subst eo26;have p111:0≤(A1:Int):=od;have q111:A1 < (A4.length:Int):=od;obtain ⟨ad111,e111,hx111_0⟩:=Kd.at_bool (Kd.R_reads' A5.out).2.2 A1 p111 q111
               (try rw [← Nbq15.out] at hx111_0)
               cases e111;replace p111:=eq_true p111;replace q111:=eq_true q111;go_wp2;go_roundg k3
               case measure=>have:=HK1.out;have:=HK2.out;have:=HK3.out;omega
               case rel=>exact ⟨(A4),(wrap64 (A1 - 1)),(by first|rfl|(simp;done)|(simp [*];done)),H',⟨by have:=HK1.out;have:=HK2.out;have:=HK3.out;omega⟩,⟨ra A5⟩,⟨by exact tb HB⟩⟩
             ·rw [if_neg c14] at H;exact absurd H (by simp)
            ·rw [if_neg c13] at H;exact absurd H (by simp)
           ·rw [if_neg c12] at H;have c12b0:decide (A2 < (A3.length:Int))=false:=decide_eq_false c12;clear c12;have H':=aA.mk H;clear H;obtain ⟨Ao27,co27,eo27⟩:=Kd.R_slice A8.out;subst eo27;go_wp2;go_roundg k3
            case measure=>have:=HK1.out;have:=HK2.out;have:=HK3.out;omega
            case rel=>exact ⟨(A4),(wrap64 (A1 - 1)),(by first|rfl|(simp;done)|(simp [*];done)),H',⟨by have:=HK1.out;have:=HK2.out;have:=HK3.out;omega⟩,⟨ra A5⟩,⟨by exact tb HB⟩⟩
        ·rw [if_neg c9] at H;exact absurd H (by simp)
       ·rw [if_neg c8] at H;exact absurd H (by simp)
      ·rw [if_neg c7] at H;have c7b0:decide (0≤A1)=false:=decide_eq_false c7;clear c7;obtain rfl:=os H;go_wp2;go_ret;exact ⟨_,er,ra A5,tb HB⟩
def wB:Nat→List bN→List Bool→Int→List Int→Option (Option (List Int))
 | 0,_,_,_,_=>none
 | k + 1,l,is,i,ws=>if i < (l.length:Int) then (if 0≤i∧i < (is.length:Int) then (if cW false is i=true∧xW (aC l i).f0=true then (if 0≤(aC l i).f2∧(aC l i).f2 < (ws.length:Int) then (if rd ws (aC l i).f2=0 then wB k l is (wrap64 (i + 1)) (ws.set (aC l i).f2.toNat (aC l i).f4) else some none) else none) else wB k l is (wrap64 (i + 1)) ws) else none) else some (some ws)
def zI:Nat→List Int→Int→List Int→Option (List Int)
 | 0,_,_,_=>none
 | k + 1,ps,j,us=>if j < (ps.length:Int) then (if 0≤j∧(0≤rd ps j∧rd ps j < (us.length:Int)) then zI k ps (wrap64 (j + 1)) (us.set (rd ps j).toNat (wrap64 (rd us (rd ps j) + 1))) else none) else some us
def rP:Nat→List bN→List Bool→List Bool→List Int→Int→List Int→Option (Option (List Int))
 | 0,_,_,_,_,_,_=>none
 | k + 1,l,is,hs,ws,i,us=>if i < (l.length:Int) then (if 0≤i∧(i < (is.length:Int)∧i < (hs.length:Int)) then (if cW false is i=true then (if (aC l i).f0=1→0≤(aC l i).f2∧(aC l i).f2 < (ws.length:Int) then (if ((aC l i).f0=1∧rd ws (aC l i).f2≠(aC l i).f1)∨(cW false hs i=true∧uR (aC l i).f0=false) then some none else (cI.f k (aC l i).f0 (aC l i).f1 (aC l i).f2 (aC l i).f3 (aC l i).f4 (aC l i).f5).bind fun ps=>(zI k ps 0 us).bind fun us'=>rP k l is hs ws (wrap64 (i + 1)) us') else none) else rP k l is hs ws (wrap64 (i + 1)) us) else none) else some (some us)
def rX:Nat→List bN→List Bool→List Bool→List Int→Int→Option Bool
 | 0,_,_,_,_,_=>none
 | k + 1,l,is,hs,us,i=>if i < (l.length:Int) then (if 0≤i∧(i < (is.length:Int)∧(i < (hs.length:Int)∧i < (us.length:Int))) then (if cW false is i=true∧(cW false hs i=true∧1 < rd us i) then some false else rX k l is hs us (wrap64 (i + 1))) else none) else some true
def yM (k:Nat) (l:List bN) (is hs:List Bool):Option Bool:=(wB k l is 0 (List.replicate 8 0)).bind fun o=>match o with
 | none=>some false
 | some ws=>if l.length < 17592186044416 then (rP k l is hs ws 0 (List.replicate l.length 0)).bind fun o=>match o with
  | none=>some false
  | some us=>rX k l is hs us 0
 else none
def cN.f (k:Nat) (l:List bN):Option Bool:=(cD.f k l).bind fun t=>if t=true then (if 0≤wrap64 ((l.length:Int) - 1)∧wrap64 ((l.length:Int) - 1) < (l.length:Int) then (if (aC l (wrap64 ((l.length:Int) - 1))).f1=1 then (dJ.f k l).bind fun fr=>if 0 < fr.length then some false else (bG.f k l).bind fun is=>(bP.f k l).bind fun hs=>yM k l is hs else some false) else none) else some false
theorem cN.calls (k:Nat) (A0:Option Addr) (c0:Nat) (l0:List (bN)) (r:Bool) (w:World) (hr0:Kd.C eV w A0 l0.length l0) (hc0:l0.length≤c0) (h:cN.f k l0=some r) :
  Calls Try.prog 96 #[.slice A0 l0.length c0] w fun e w'=>e = .returned (.bool r)∧Below w.heap.size w w':=by
 have HR:=aA.mk hr0;have HC:=aA.mk hc0;have HB:=aA.mk (Below.refl w.heap.size w);clear hr0 hc0;unfold cN.f at h;obtain ⟨t,ht,h⟩:=Option.bind_eq_some_iff.1 h;have HT:=aA.mk ht;clear ht
 cases t with
 | false =>
  rw [if_neg (by decide)] at h;obtain rfl:=Option.some.inj h;clear h
  go_enter Try.func96,Try.ntmps96
  go_wp2_with (first|(go_at_call 104;(try simp only [aJ,aK]);(with_reducible refine (cD.calls k _ c0 l0 _ _ (Kd.C_below HR.out (tb HB)) HC.out HT.out).mono ?_);rintro e w2 ⟨rfl,hb⟩;have HB_:=aA.mk (aE (tb HB) hb);skip;clear HB;have HB:=HB_;clear HB_ hb))
  (go_ret;exact ⟨by first|rfl|(simp;done),(tb HB)⟩)
 | true =>
 rw [if_pos rfl] at h
 by_cases c3:0≤wrap64 ((l0.length:Int) - 1)∧wrap64 ((l0.length:Int) - 1) < (l0.length:Int)
 case neg=>rw [if_neg c3] at h;cases h
 rw [if_pos c3] at h;obtain ⟨c3,c4⟩:=c3;obtain ⟨ad,e_,_,hq,_⟩:=dD HR.out _ c3 c4;cases e_;have HQ:=aA.mk hq;clear hq;have d3:decide (0≤wrap64 ((l0.length:Int) - 1))=true:=decide_eq_true c3;have d4:decide (wrap64 ((l0.length:Int) - 1) < (l0.length:Int))=true:=decide_eq_true c4;replace c3:=eq_true c3;replace c4:=eq_true c4
 by_cases b0:(aC l0 (wrap64 ((l0.length:Int) - 1))).f1=1
 case neg =>
  rw [if_neg b0] at h;obtain rfl:=Option.some.inj h;replace b0:=bne_iff_ne.2 b0;clear h
  go_enter Try.func96,Try.ntmps96
  go_wp2_with (first|(go_at_call 104;(try simp only [aJ,aK]);(with_reducible refine (cD.calls k _ c0 l0 _ _ (Kd.C_below HR.out (tb HB)) HC.out HT.out).mono ?_);rintro e w2 ⟨rfl,hb⟩;have HB_:=aA.mk (aE (tb HB) hb);have hq_:=kZ HB_ HQ.out;clear HB;have HB:=HB_;clear HB_ hb))
  (go_ret;exact ⟨by first|rfl|(simp;done),(tb HB)⟩)
 rw [if_pos b0] at h;replace b0:=bne_eq_false_iff_eq.2 b0;obtain ⟨fr,hf,h⟩:=Option.bind_eq_some_iff.1 h;have HF:=aA.mk hf;clear hf
 by_cases b1:0 < fr.length
 ·rw [if_pos b1] at h;obtain rfl:=Option.some.inj h;have b2:=decide_eq_true b1;clear h
  go_enter Try.func96,Try.ntmps96
  go_wp2_with (first|(go_at_call 104;(try simp only [aJ,aK]);(with_reducible refine (cD.calls k _ c0 l0 _ _ (Kd.C_below HR.out (tb HB)) HC.out HT.out).mono ?_);rintro e w2 ⟨rfl,hb⟩;have HB_:=aA.mk (aE (tb HB) hb);have hq_:=kZ HB_ HQ.out;clear HB;have HB:=HB_;clear HB_ hb)|(go_at_call 128;(try simp only [aJ,aK]);(with_reducible refine (dJ.calls k _ c0 l0 _ _ (Kd.C_below HR.out (tb HB)) HC.out HF.out).mono ?_);rintro e w3 ⟨v29,rfl,ho,hb⟩;have HB_:=aA.mk (aE (tb HB) hb);obtain ⟨Af,cf,ef⟩:=Kd.R_slice ho;subst ef;clear ho;clear HB;have HB:=HB_;clear HB_ hb))
  (go_ret;exact ⟨by first|rfl|(simp;done),(tb HB)⟩)
 rw [if_neg b1] at h;have b2:=decide_eq_false b1;have b3:=decide_eq_false (show ¬ (0:Int) < (fr.length:Int) by omega);clear b1;obtain ⟨is,hi,h⟩:=Option.bind_eq_some_iff.1 h;obtain ⟨hs,hh,h⟩:=Option.bind_eq_some_iff.1 h;have HI:=aA.mk hi;have HH:=aA.mk hh;unfold yM at h;obtain ⟨ows,hw,h⟩:=Option.bind_eq_some_iff.1 h;have HW:=aA.mk hw;have H0:=aA.mk h;clear hi hh hw h
 go_enter Try.func96,Try.ntmps96
 go_upto_block 0 with (first|(go_at_call 104;(try simp only [aJ,aK]);(with_reducible refine (cD.calls k _ c0 l0 _ _ (Kd.C_below HR.out (tb HB)) HC.out HT.out).mono ?_);rintro e w2 ⟨rfl,hb⟩;have HB_:=aA.mk (aE (tb HB) hb);have hq_:=kZ HB_ HQ.out;clear HB;have HB:=HB_;clear HB_ hb)|(go_at_call 128;(try simp only [aJ,aK]);(with_reducible refine (dJ.calls k _ c0 l0 _ _ (Kd.C_below HR.out (tb HB)) HC.out HF.out).mono ?_);rintro e w3 ⟨v29,rfl,ho,hb⟩;have HB_:=aA.mk (aE (tb HB) hb);obtain ⟨Af,cf,ef⟩:=Kd.R_slice ho;subst ef;clear ho;clear HB;have HB:=HB_;clear HB_ hb)|(go_at_call 102;(try simp only [aJ,aK]);(with_reducible refine (bG.calls k _ c0 l0 _ _ (Kd.C_below HR.out (tb HB)) HC.out HI.out).mono ?_);rintro e w4 ⟨v34,rfl,ho,hb⟩;have HB_:=aA.mk (aE (tb HB) hb);have HIS:=aA.mk (Kd.R_lower ho (aM (tb HB)));clear ho;clear HB;have HB:=HB_;clear HB_ hb)|(go_at_call 98;(try simp only [aJ,aK]);(with_reducible refine (bP.calls k _ c0 l0 _ _ (Kd.C_below HR.out (tb HB)) HC.out HH.out).mono ?_);rintro e wa ⟨v36,rfl,ho,hb⟩;have HB_:=aA.mk (aE (tb HB) hb);have HHS:=aA.mk (Kd.R_lower ho (aM (tb HB)));have HIS_:=aA.mk (Kd.R_below HIS.out hb);clear HIS ho;have HIS:=HIS_;clear HIS_;clear HB;have HB:=HB_;clear HB_ hb)|((with_reducible refine bM (N:=37) rfl ?_);refine Kd.R_lit (Kd.int .i64) _ 3 ?hg (N:=37) ?hd (xs:=([]:List Int)) (inner:=[]) (ok:=fun _=>True) (okp:=fun _=>True) ?hr ?hp (fun _ hk=>hk) trivial (Below.refl _ _) (Nat.le_refl _) (by simp) ?_;(case hd=>rfl);(case hg=>rfl);(case hr=>first|(go_simp;done)|(go_simp;rfl));(case hp=>exact (cP.none _ _));intro v102 w1 ho hb hg_ hnew_;clear hg_ hnew_;have A1:=aA.mk ho;have HB1:=aA.mk hb;clear ho hb))
 obtain ⟨Ai,ci,ei⟩:=Kd.R_slice HIS.out;subst ei;obtain ⟨Ah,ch,eh⟩:=Kd.R_slice HHS.out;subst eh
 go_cut [5] (fun v wx=>aA (Below wa.heap.size wa wx)∧aA (Kd.R (Kd.int .i64) 3 wx wa.heap.size (fun _=>True) v (List.replicate 8 0)))
 case first=>as_aux_lemma =>
  go_wp2_with fail
  go_loopg [5,6] (8 + 1) (fun kq v5 v6 wr=>∃ (i:Int),v6 = .int .i64 i∧aA (0≤i∧i≤8∧(8 - i).toNat < kq)∧aA (Kd.R (Kd.int .i64) 3 wr wa.heap.size (fun _=>True) v5 (List.replicate i.toNat 0))∧aA (Below wa.heap.size wa wr))
  case atStart=>exact ⟨0,rfl,⟨by omega⟩,A1,HB1⟩
  case round =>
   clear A1 HB1;obtain ⟨i,rfl,HJ,HO,HBx⟩:=hrel;obtain ⟨Av,cv,ev⟩:=Kd.R_slice HO.out;subst ev
   by_cases c5:i < 8
   ·have d5:decide (i < 8)=true:=decide_eq_true c5;have LM:=aA.mk (show i.toNat < 17592186044416 by have:=HJ.out;skip;omega);have HJ2:=aA.mk (show wrap64 (i + 1)=i + 1 by have:=HJ.out;have:=LM.out;unfold wrap64;omega);have C5:=aA.mk c5;clear c5
    cases gk with
    | zero=>exact absurd HJ.out.2.2 (by omega)
    | succ k1 =>
    go_wp2_with (first|((with_reducible refine cM (b := .append) (xs:=#[.tmp 42,.tmp 43]) rfl ?_);at_builtin;refine Kd.R_append (Kd.int .i64) (w0:=wa) wa.heap.size rfl (.tmp 42) (.tmp 43) 31 3 (.int .i64 0) 8 rfl Try.underlying31 info3 rfl (by decide) (by omega) (.slice Av (List.replicate i.toNat (0:Int)).length cv) (List.replicate i.toNat 0) 0 [.int .i64 0] (fun _=>True) (fun _=>False) rfl rfl ?aP (fun _ hk=>hk.elim) ?aF ?aO ?aB ?aS ?aL ?_;(case aP=>exact rfl);(case aB=>exact (by repeat (first|(with_reducible first|exact HBx.out|apply bS|apply aV|apply bQ)|exact HBx.out)));(case aF=>exact (fun _ _=>trivial));(case aO=>exact (ra HO));(case aS=>exact (aM (by repeat (first|(with_reducible first|exact HBx.out|apply bS|apply aV|apply bQ)|exact HBx.out))));(case aL=>rw [List.length_replicate];have:=LM.out;omega);intro v105 w6 ho hb hg hat;have HB6:=aA.mk hb;have HO6:=aA.mk ho;clear ho hb hg hat));go_roundg k1
    case measure=>omega
    case rel=>exact ⟨wrap64 (i + 1),rfl,⟨by have:=HJ.out;have:=HJ2.out;have:=C5.out;omega⟩,⟨by rw [HJ2.out,show (i + 1).toNat=i.toNat + 1 by have:=HJ.out;omega,List.replicate_succ'];exact HO6.out⟩,HB6⟩
   ·have d5:decide (i < 8)=false:=decide_eq_false c5;have e5:=aA.mk (show i.toNat=8 by have:=HJ.out;omega);clear c5;go_wp2;go_meet;exact ⟨HBx,⟨by rw [← e5.out];exact HO.out⟩⟩

 case rest =>
 clear A1 HB1;obtain ⟨HBx,HO⟩:=hcut;obtain ⟨Aw,cw,ew⟩:=Kd.R_slice HO.out;subst ew;rw [List.length_replicate] at HO;simp only [List.length_replicate]
 go_upto_block 2 with (fail)
 go_cut [7] (fun _ wx=>∃ ws:List Int,aA (ows=some ws)∧aA (Below wa.heap.size wa wx)∧aA (Kd.R (Kd.int .i64) 3 wx wa.heap.size (fun _=>True) (.slice Aw 8 cw) ws))
 case first=>as_aux_lemma =>
  go_wp2_with fail
  go_loopg [7] k (fun kq v7 wr=>∃ (i:Int) (ws:List Int),v7 = .int .i64 i∧aA (wB kq l0 is i ws=some ows)∧aA (kq≤k)∧aA (Kd.R (Kd.int .i64) 3 wr wa.heap.size (fun _=>True) (.slice Aw 8 cw) ws)∧aA (Below wa.heap.size wa wr))
  case atStart=>exact ⟨0,_,rfl,HW,⟨Nat.le_refl _⟩,HO,HBx⟩
  case round =>
   clear HW HO HBx;obtain ⟨i,ws,rfl,HA,HK1,HO,HBx⟩:=hrel
   cases gk with
   | zero=>exact absurd HA.out (by simp [wB])
   | succ k1 =>
   have H:=HA.out;clear HA;simp only [wB] at H
   by_cases c5:i < (l0.length:Int)
   ·rw [if_pos c5] at H
    by_cases c6:0≤i∧i < (is.length:Int)
    case neg=>rw [if_neg c6] at H;cases H
    rw [if_pos c6] at H;obtain ⟨c6,c7⟩:=c6;obtain ⟨ai,e_,him⟩:=Kd.at_bool (Kd.R_reads' HIS.out).2.2 i c6 c7;cases e_;replace him:=kZ HBx him;obtain ⟨ad2,e_,hx⟩:=dD (Kd.C_below HR.out HB.out) i c6 c5;obtain rfl:ad=ad2:=(by injection e_);clear e_;obtain ⟨hx0,_,hx2,_,hx4,_⟩:=hx;replace hx0:=kZ HBx hx0;replace hx2:=kZ HBx hx2;replace hx4:=kZ HBx hx4;have d5:decide (i < (l0.length:Int))=true:=decide_eq_true c5;have d6:decide (0≤i)=true:=decide_eq_true c6;have d7:decide (i < (is.length:Int))=true:=decide_eq_true c7;replace c5:=eq_true c5;replace c6:=eq_true c6;replace c7:=eq_true c7
    by_cases c8:cW false is i=true∧xW (aC l0 i).f0=true
    ·rw [if_pos c8] at H;obtain ⟨b4,b5⟩:=c8;rw [b4] at him
     by_cases c9:0≤(aC l0 i).f2∧(aC l0 i).f2 < (ws.length:Int)
     case neg=>rw [if_neg c9] at H;cases H
     rw [if_pos c9] at H;obtain ⟨c9,c10⟩:=c9;have hl8:=(Kd.R_reads' HO.out).1;obtain ⟨gw,cw2,ew,GW,_,_⟩:=Kd.R_form HO.out (by omega)
     obtain ⟨rfl,rfl⟩:Aw=some ⟨gw,0,none⟩∧cw=cw2:=by injection ew;exact ⟨by assumption,by assumption⟩
     rw [← hl8] at c10;clear ew hl8;obtain ⟨hy,hyf⟩:=Kd.R_celln (0:Int) HO.out _ c9 c10
     change wr.cell? _=some (.int .i64 (rd ws (aC l0 i).f2)) at hy
     have d9:decide (0≤(aC l0 i).f2)=true:=decide_eq_true c9;have d10:decide ((aC l0 i).f2 < 8)=true:=decide_eq_true c10;have d11:decide ((aC l0 i).f2 < ((8:Nat):Int))=true:=decide_eq_true c10;have c11:((aC l0 i).f2 < 8)=True:=eq_true c10;replace c9:=eq_true c9;replace c10:=eq_true c10
     by_cases b6:rd ws (aC l0 i).f2=0
     case neg =>
      rw [if_neg b6] at H;replace b6:=bne_iff_ne.2 b6;obtain rfl:=os H;obtain rfl:=Option.some.inj H0.out;clear H b4
      (go_wp2_with (first|(go_at_call 103;(try simp only [aJ,aK]);(with_reducible refine (quC _ _).mono ?_);rintro e w' ⟨rfl,⟨nd,rfl⟩⟩;(try exact dd)));(repeat (go_quiet (first|(go_at_call 103;(try simp only [aJ,aK]);(with_reducible refine (quC _ _).mono ?_);rintro e w' ⟨rfl,⟨nd,rfl⟩⟩;(try exact dd)));try go_wp2_with (first|(go_at_call 103;(try simp only [aJ,aK]);(with_reducible refine (quC _ _).mono ?_);rintro e w' ⟨rfl,⟨nd,rfl⟩⟩;(try exact dd))))))
      go_ret;exact ⟨by first|rfl|(simp;done),dX HB.out HB.out.size (by repeat (first|(with_reducible first|exact HBx.out|apply bS|apply aV|apply bQ)|exact HBx.out))⟩
     rw [if_pos b6] at H;have b7:=bne_eq_false_iff_eq.2 b6;have H':=aA.mk H;have GW_:=aA.mk GW;clear H b6 GW b4
     go_upto_region 15 with (first|(go_at_call 103;(try simp only [aJ,aK]);(with_reducible refine (quC _ _).mono ?_);rintro e w' ⟨rfl,⟨nd,rfl⟩⟩;(try exact dd)))
     refine eW (n:=13) (S:=fun w'=>∀ p,w'.cell? p=wr.cell? p) (ds:=[12]) (tF 0 13) (by kernel_rfl) rfl rfl (fun _=>rfl) (fun hHeld=>?_)
     repeat (first|(refine oR (v:=undef) (a':=?_) rfl rfl (by kernel_rfl) (fun _ _ _ h=>h) (Or.inr ⟨by rfl,rfl⟩) ?_ ?_;rotate_left;(simp only [Act.put,List.replicate,List.cons_append,List.nil_append,List.append_nil,List.setIfInBounds_toArray,List.set_cons_zero,List.set_cons_succ,aJ,aK];rfl))|(refine oR (v:=?_) (a':=?_) rfl rfl (by kernel_rfl) (fun _ _ _ h=>h) (Or.inl ⟨by rfl,?_⟩) ?_ ?_;rotate_left;(intro w';go_simp;with_reducible rfl);rotate_left;(simp only [Act.put,List.replicate,List.cons_append,List.nil_append,List.append_nil,List.setIfInBounds_toArray,List.set_cons_zero,List.set_cons_succ,aJ,aK];rfl))|(refine wV (v:=?_) (a':=?_) rfl rfl (by kernel_rfl) (fun _ _ _ h=>h) (Or.inl ⟨by rfl,?_⟩) hHeld ?_ ?_;rotate_left;(intro w' s0;go_simp;with_reducible rfl);rotate_left;(simp only [Act.put,List.replicate,List.cons_append,List.nil_append,List.append_nil,List.setIfInBounds_toArray,List.set_cons_zero,List.set_cons_succ,aJ,aK];rfl)))
     refine wO (w1:=?_) rfl rfl (by kernel_rfl) (by decide) (by rfl) ?_ (by kernel_rfl) ?_;rotate_left;(go_simp;rfl);go_wp2;go_roundg k1
     case measure=>have:=HK1.out;omega
     case rel=>exact ⟨wrap64 (i + 1),_,rfl,H',⟨by have:=HK1.out;omega⟩,⟨(Kd.R_putg (Kd.R_drew (Kd.R_drewN HO.out _)) (aC l0 i).f2 (aC l0 i).f4).1⟩,⟨aZ (bQ (aV HBx.out _)) GW_.out⟩⟩
    ·rw [if_neg c8] at H;have H':=aA.mk H;have b4:=vQ c8;clear H c8
     rcases b4 with b4 | ⟨b4,b5⟩
     all_goals (rw [b4] at him;clear b4;(go_wp2_with (first|(go_at_call 103;(try simp only [aJ,aK]);(with_reducible refine (quC _ _).mono ?_);rintro e w' ⟨rfl,⟨nd,rfl⟩⟩;(try exact dd)));(repeat (go_quiet (first|(go_at_call 103;(try simp only [aJ,aK]);(with_reducible refine (quC _ _).mono ?_);rintro e w' ⟨rfl,⟨nd,rfl⟩⟩;(try exact dd)));try go_wp2_with (first|(go_at_call 103;(try simp only [aJ,aK]);(with_reducible refine (quC _ _).mono ?_);rintro e w' ⟨rfl,⟨nd,rfl⟩⟩;(try exact dd))))));go_roundg k1;(case measure=>have:=HK1.out;omega);(case rel=>exact ⟨wrap64 (i + 1),_,rfl,H',⟨by have:=HK1.out;omega⟩,⟨(ra HO)⟩,⟨(by repeat (first|(with_reducible first|exact HBx.out|apply bS|apply aV|apply bQ)|exact HBx.out))⟩⟩))
   ·rw [if_neg c5] at H;have d5:decide (i < (l0.length:Int))=false:=decide_eq_false c5;obtain rfl:=os H;clear H c5;go_wp2;go_meet;exact ⟨ws,⟨rfl⟩,HBx,HO⟩
 case rest =>
 clear HO HBx HW;obtain ⟨ws,HE,HBx,HO⟩:=hcut;obtain rfl:=HE.out;have h:=H0.out
 dsimp only at h
 by_cases lm:l0.length < 17592186044416
 case neg=>rw [if_neg lm] at h;cases h
 rw [if_pos lm] at h;have LEN:=aA.mk lm;obtain ⟨ous,hu,h⟩:=Option.bind_eq_some_iff.1 h;have HU:=aA.mk hu;clear H0 HE;have H0:=aA.mk h;clear lm hu h;obtain ⟨wb,hwb⟩:∃ W:World,W=wc:=⟨_,rfl⟩;rw [← hwb] at HBx HO ⊢;clear hwb;have CI:=aA.mk (Kd.C_below (Kd.R_reads' HIS.out).2.2 HBx.out);have CH:=aA.mk (Kd.C_below (Kd.R_reads' HHS.out).2.2 HBx.out);have CN:=aA.mk (Kd.C_below (Kd.C_below HR.out HB.out) HBx.out);have CW:=aA.mk (Kd.R_reads' HO.out).2.2;have L8:=aA.mk (Kd.R_reads' HO.out).1;clear HIS HHS HO
 go_upto_block 4 with (first|((with_reducible refine bM (N:=84) rfl ?_);refine Kd.R_lit (Kd.int .i64) _ 3 ?hg (N:=84) ?hd (xs:=([]:List Int)) (inner:=[]) (ok:=fun _=>True) (okp:=fun _=>True) ?hr ?hp (fun _ hk=>hk) trivial (Below.refl _ _) (Nat.le_refl _) (by simp) ?_;(case hd=>rfl);(case hg=>rfl);(case hr=>first|(go_simp;done)|(go_simp;rfl));(case hp=>exact (cP.none _ _));intro v102 w1 ho hb hg_ hnew_;clear hg_ hnew_;have A1:=aA.mk ho;have HB1:=aA.mk hb;clear ho hb))
 go_cut [8] (fun v wx=>aA (Below wb.heap.size wb wx)∧aA (Kd.R (Kd.int .i64) 3 wx wb.heap.size (fun _=>True) v (List.replicate l0.length 0)))
 case first=>as_aux_lemma =>
  go_wp2_with fail
  go_loopg [8,9] (l0.length + 1) (fun kq v5 v6 wr=>∃ (i:Int),v6 = .int .i64 i∧aA (0≤i∧i≤(l0.length:Int)∧((l0.length:Int) - i).toNat < kq)∧aA (Kd.R (Kd.int .i64) 3 wr wb.heap.size (fun _=>True) v5 (List.replicate i.toNat 0))∧aA (Below wb.heap.size wb wr))
  case atStart=>exact ⟨0,rfl,⟨by omega⟩,A1,HB1⟩
  case round =>
   clear A1 HB1;obtain ⟨i,rfl,HJ,HO,HBx⟩:=hrel;obtain ⟨Av,cv,ev⟩:=Kd.R_slice HO.out;subst ev
   by_cases c5:i < (l0.length:Int)
   ·have d5:decide (i < (l0.length:Int))=true:=decide_eq_true c5;have LM:=aA.mk (show i.toNat < 17592186044416 by have:=HJ.out;have:=LEN.out;omega);have HJ2:=aA.mk (show wrap64 (i + 1)=i + 1 by have:=HJ.out;have:=LM.out;unfold wrap64;omega);have C5:=aA.mk c5;clear c5
    cases gk with
    | zero=>exact absurd HJ.out.2.2 (by omega)
    | succ k1 =>
    go_wp2_with (first|((with_reducible refine cM (b := .append) (xs:=#[.tmp 91,.tmp 92]) rfl ?_);at_builtin;refine Kd.R_append (Kd.int .i64) (w0:=wb) wb.heap.size rfl (.tmp 91) (.tmp 92) 31 3 (.int .i64 0) 8 rfl Try.underlying31 info3 rfl (by decide) (by omega) (.slice Av (List.replicate i.toNat (0:Int)).length cv) (List.replicate i.toNat 0) 0 [.int .i64 0] (fun _=>True) (fun _=>False) rfl rfl ?aP (fun _ hk=>hk.elim) ?aF ?aO ?aB ?aS ?aL ?_;(case aP=>exact rfl);(case aB=>exact (by repeat (first|(with_reducible first|exact HBx.out|apply bS|apply aV|apply bQ)|exact HBx.out)));(case aF=>exact (fun _ _=>trivial));(case aO=>exact (ra HO));(case aS=>exact (aM (by repeat (first|(with_reducible first|exact HBx.out|apply bS|apply aV|apply bQ)|exact HBx.out))));(case aL=>rw [List.length_replicate];have:=LM.out;omega);intro v105 w6 ho hb hg hat;have HB6:=aA.mk hb;have HO6:=aA.mk ho;clear ho hb hg hat));go_roundg k1
    case measure=>omega
    case rel=>exact ⟨wrap64 (i + 1),rfl,⟨by have:=HJ.out;have:=HJ2.out;have:=C5.out;omega⟩,⟨by rw [HJ2.out,show (i + 1).toNat=i.toNat + 1 by have:=HJ.out;omega,List.replicate_succ'];exact HO6.out⟩,HB6⟩
   ·have d5:decide (i < (l0.length:Int))=false:=decide_eq_false c5;have e5:=aA.mk (show i.toNat=l0.length by have:=HJ.out;omega);clear c5;go_wp2;go_meet;exact ⟨HBx,⟨by rw [← e5.out];exact HO.out⟩⟩

 case rest =>
 clear A1 HB1;obtain ⟨HBy,HO⟩:=hcut;obtain ⟨Au,cu,eu⟩:=Kd.R_slice HO.out;subst eu;have HL0:=aA.mk (show (List.replicate l0.length (0:Int)).length=l0.length from List.length_replicate);generalize List.replicate l0.length (0:Int)=us0 at HU HO HL0 ⊢
 go_upto_block 6 with (fail)
 go_cut [10] (fun _ wx=>∃ us:List Int,aA (ous=some us)∧aA (us.length=us0.length)∧aA (Below wb.heap.size wb wx)∧aA (Kd.R (Kd.int .i64) 3 wx wb.heap.size (fun _=>True) (.slice Au us0.length cu) us))
 case first=>as_aux_lemma =>
  go_wp2_with fail
  go_loopg [10] k (fun kq v10 wr=>∃ (i:Int) (us:List Int),v10 = .int .i64 i∧aA (rP kq l0 is hs ws i us=some ous)∧aA (kq≤k)∧aA (us.length=us0.length)∧aA (Kd.R (Kd.int .i64) 3 wr wb.heap.size (fun _=>True) (.slice Au us0.length cu) us)∧aA (Below wb.heap.size wb wr))
  case atStart=>exact ⟨0,_,rfl,HU,⟨Nat.le_refl _⟩,⟨rfl⟩,HO,HBy⟩
  case round =>
   clear HU HO HBy;obtain ⟨i,us,rfl,HA,HK1,HLU,HO,HBy⟩:=hrel
   cases gk with
   | zero=>exact absurd HA.out (by simp [rP])
   | succ k1 =>
   have H:=HA.out;clear HA;simp only [rP] at H
   by_cases c5:i < (l0.length:Int)
   ·rw [if_pos c5] at H
    by_cases c6:0≤i∧(i < (is.length:Int)∧i < (hs.length:Int))
    case neg=>rw [if_neg c6] at H;cases H
    rw [if_pos c6] at H;obtain ⟨c6,c7,c8⟩:=c6;have C56:=aA.mk (show 0 < l0.length by omega);obtain ⟨ai,e_,him⟩:=Kd.at_bool CI.out i c6 c7;cases e_;obtain ⟨ah,e_,hhm⟩:=Kd.at_bool CH.out i c6 c8;cases e_;obtain ⟨ad2,e_,hx0,hx1,hx2,hx3,hx4,hx5⟩:=dD CN.out i c6 c5;obtain rfl:ad=ad2:=(by injection e_);clear e_;replace him:=kZ HBy him;replace hhm:=kZ HBy hhm;replace hx0:=kZ HBy hx0;replace hx1:=kZ HBy hx1;replace hx2:=kZ HBy hx2;replace hx3:=kZ HBy hx3;replace hx4:=kZ HBy hx4;replace hx5:=kZ HBy hx5;have d5:decide (i < (l0.length:Int))=true:=decide_eq_true c5;have d6:decide (0≤i)=true:=decide_eq_true c6;have d7:decide (i < (is.length:Int))=true:=decide_eq_true c7;have d8:decide (i < (hs.length:Int))=true:=decide_eq_true c8;replace c5:=eq_true c5;replace c6:=eq_true c6;replace c7:=eq_true c7;replace c8:=eq_true c8
    cases b4:cW false is i with
    | false =>
     rw [if_neg (by rw [b4];decide)] at H;rw [b4] at him;have H':=aA.mk H;clear H b4;go_wp2;go_roundg k1
     case measure=>have:=HK1.out;omega
     case rel=>exact ⟨wrap64 (i + 1),_,rfl,H',⟨by have:=HK1.out;omega⟩,HLU,⟨(ra HO)⟩,⟨(by repeat (first|(with_reducible first|exact HBy.out|apply bS|apply aV|apply bQ)|exact HBy.out))⟩⟩
    | true =>
    rw [if_pos b4] at H;rw [b4] at him;clear b4
    by_cases c9:(aC l0 i).f0=1→0≤(aC l0 i).f2∧(aC l0 i).f2 < (ws.length:Int)
    case neg=>rw [if_neg c9] at H;cases H
    rw [if_pos c9] at H;have C9:=aA.mk c9;clear c9
    have hyw:(aC l0 i).f0=1→∃ aw,Aw=some aw∧wr.cell? (aw.add (aC l0 i).f2.toNat)=some (.int .i64 (rd ws (aC l0 i).f2)):=fun h=>by
     obtain ⟨aw,ee1,ee2⟩:=Kd.at_int CW.out _ (C9.out h).1 (C9.out h).2;exact ⟨aw,ee1,kZ HBy ee2⟩
    have HYW:=aA.mk hyw;clear hyw
    by_cases c10:((aC l0 i).f0=1∧rd ws (aC l0 i).f2≠(aC l0 i).f1)∨(cW false hs i=true∧uR (aC l0 i).f0=false)
    ·rw [if_pos c10] at H;obtain rfl:=os H;obtain rfl:=Option.some.inj H0.out;clear H
     by_cases z1:(aC l0 i).f0=1
     ·have ee1:=beq_iff_eq.2 z1;obtain ⟨aw,e_,hy⟩:=HYW.out z1;cases e_;have c11:=(C9.out z1).1;have c12:=(C9.out z1).2;rw [← L8.out] at c12;have d11:decide (0≤(aC l0 i).f2)=true:=decide_eq_true c11;have d12:decide ((aC l0 i).f2 < 8)=true:=decide_eq_true c12;have d13:decide ((aC l0 i).f2 < ((8:Nat):Int))=true:=decide_eq_true c12;have c13:((aC l0 i).f2 < 8)=True:=eq_true c12;replace c11:=eq_true c11;replace c12:=eq_true c12
      by_cases z2:rd ws (aC l0 i).f2=(aC l0 i).f1
      ·have ee2:=bne_eq_false_iff_eq.2 z2;obtain ⟨b5,b6⟩:=c10.resolve_left (fun h=>h.2 z2);rw [b5] at hhm;clear c10 z1 z2 b5
       (go_wp2_with (first|(go_at_call 129;(try simp only [aJ,aK]);(with_reducible refine (sQ _ _).mono ?_);rintro e w' ⟨rfl,⟨nd,rfl⟩⟩;(try exact dd)));(repeat (go_quiet (first|(go_at_call 129;(try simp only [aJ,aK]);(with_reducible refine (sQ _ _).mono ?_);rintro e w' ⟨rfl,⟨nd,rfl⟩⟩;(try exact dd)));try go_wp2_with (first|(go_at_call 129;(try simp only [aJ,aK]);(with_reducible refine (sQ _ _).mono ?_);rintro e w' ⟨rfl,⟨nd,rfl⟩⟩;(try exact dd))))))
       go_ret;exact ⟨by first|rfl|(simp;done),(dX HB.out HB.out.size (dX HBx.out HBx.out.size (by repeat (first|(with_reducible first|exact HBy.out|apply bS|apply aV|apply bQ)|exact HBy.out))))⟩
      ·have ee2:=bne_iff_ne.2 z2;clear c10 z1 z2
       (go_wp2_with (first|(go_at_call 129;(try simp only [aJ,aK]);(with_reducible refine (sQ _ _).mono ?_);rintro e w' ⟨rfl,⟨nd,rfl⟩⟩;(try exact dd)));(repeat (go_quiet (first|(go_at_call 129;(try simp only [aJ,aK]);(with_reducible refine (sQ _ _).mono ?_);rintro e w' ⟨rfl,⟨nd,rfl⟩⟩;(try exact dd)));try go_wp2_with (first|(go_at_call 129;(try simp only [aJ,aK]);(with_reducible refine (sQ _ _).mono ?_);rintro e w' ⟨rfl,⟨nd,rfl⟩⟩;(try exact dd))))))
       go_ret;exact ⟨by first|rfl|(simp;done),(dX HB.out HB.out.size (dX HBx.out HBx.out.size (by repeat (first|(with_reducible first|exact HBy.out|apply bS|apply aV|apply bQ)|exact HBy.out))))⟩
     ·have ee1:=beq_eq_false_iff_ne.2 z1;obtain ⟨b5,b6⟩:=c10.resolve_left (fun h=>z1 h.1);rw [b5] at hhm;clear c10 z1 b5
      (go_wp2_with (first|(go_at_call 129;(try simp only [aJ,aK]);(with_reducible refine (sQ _ _).mono ?_);rintro e w' ⟨rfl,⟨nd,rfl⟩⟩;(try exact dd)));(repeat (go_quiet (first|(go_at_call 129;(try simp only [aJ,aK]);(with_reducible refine (sQ _ _).mono ?_);rintro e w' ⟨rfl,⟨nd,rfl⟩⟩;(try exact dd)));try go_wp2_with (first|(go_at_call 129;(try simp only [aJ,aK]);(with_reducible refine (sQ _ _).mono ?_);rintro e w' ⟨rfl,⟨nd,rfl⟩⟩;(try exact dd))))))
      go_ret;exact ⟨by first|rfl|(simp;done),(dX HB.out HB.out.size (dX HBx.out HBx.out.size (by repeat (first|(with_reducible first|exact HBy.out|apply bS|apply aV|apply bQ)|exact HBy.out))))⟩
    rw [if_neg c10] at H;obtain ⟨ps,hp,H⟩:=Option.bind_eq_some_iff.1 H;obtain ⟨us',hq,H⟩:=Option.bind_eq_some_iff.1 H;have HP:=aA.mk hp;have HQ2:=aA.mk hq;have H':=aA.mk H;clear hp hq H;have b5:=vQ (fun h=>c10 (Or.inr ⟨h.1,by have:=h.2;revert this;cases uR (aC l0 i).f0 <;> simp⟩):¬ (cW false hs i=true∧(!uR (aC l0 i).f0)=true))
    have z3:¬ ((aC l0 i).f0=1∧rd ws (aC l0 i).f2≠(aC l0 i).f1):=fun h=>c10 (Or.inl h)
    clear c10
    go_upto_region 25 with (fail)
    go_cut [141] (fun v wx=>v = .bool false∧aA (∃ n:Nat,wx=wr.drewN n))
    case first=>as_aux_lemma =>
     by_cases z1:(aC l0 i).f0=1
     ·have ee1:=beq_iff_eq.2 z1;obtain ⟨aw,e_,hy⟩:=HYW.out z1;cases e_;have c11:=(C9.out z1).1;have c12:=(C9.out z1).2;rw [← L8.out] at c12;have d11:decide (0≤(aC l0 i).f2)=true:=decide_eq_true c11;have d12:decide ((aC l0 i).f2 < 8)=true:=decide_eq_true c12;have d13:decide ((aC l0 i).f2 < ((8:Nat):Int))=true:=decide_eq_true c12;have c13:((aC l0 i).f2 < 8)=True:=eq_true c12;replace c11:=eq_true c11;replace c12:=eq_true c12;have ee2:=bne_eq_false_iff_eq.2 (show rd ws (aC l0 i).f2=(aC l0 i).f1 from Classical.byContradiction fun h=>z3 ⟨z1,h⟩);clear z1 z3
      rcases b5 with b5 | ⟨b5,b6⟩
      all_goals (rw [b5] at hhm;clear b5;(try replace b6:uR (aC l0 i).f0=true:=by simpa using b6);(go_wp2_with (first|(go_at_call 129;(try simp only [aJ,aK]);(with_reducible refine (sQ _ _).mono ?_);rintro e w' ⟨rfl,⟨nd,rfl⟩⟩;(try exact dd)));(repeat (go_quiet (first|(go_at_call 129;(try simp only [aJ,aK]);(with_reducible refine (sQ _ _).mono ?_);rintro e w' ⟨rfl,⟨nd,rfl⟩⟩;(try exact dd)));try go_wp2_with (first|(go_at_call 129;(try simp only [aJ,aK]);(with_reducible refine (sQ _ _).mono ?_);rintro e w' ⟨rfl,⟨nd,rfl⟩⟩;(try exact dd))))));go_meet;exact ⟨rfl,⟨⟨_,rfl⟩⟩⟩)
     ·have ee1:=beq_eq_false_iff_ne.2 z1;clear z1 z3
      rcases b5 with b5 | ⟨b5,b6⟩
      all_goals (rw [b5] at hhm;clear b5;(try replace b6:uR (aC l0 i).f0=true:=by simpa using b6);(go_wp2_with (first|(go_at_call 129;(try simp only [aJ,aK]);(with_reducible refine (sQ _ _).mono ?_);rintro e w' ⟨rfl,⟨nd,rfl⟩⟩;(try exact dd)));(repeat (go_quiet (first|(go_at_call 129;(try simp only [aJ,aK]);(with_reducible refine (sQ _ _).mono ?_);rintro e w' ⟨rfl,⟨nd,rfl⟩⟩;(try exact dd)));try go_wp2_with (first|(go_at_call 129;(try simp only [aJ,aK]);(with_reducible refine (sQ _ _).mono ?_);rintro e w' ⟨rfl,⟨nd,rfl⟩⟩;(try exact dd))))));go_meet;exact ⟨rfl,⟨⟨_,rfl⟩⟩⟩)
    case rest =>
    clear b5 z3;obtain ⟨rfl,HN⟩:=hcut;obtain ⟨nd_,hnd⟩:=HN.out;subst hnd
    have hU0:0 < us.length:=by have:=HLU.out;have:=HL0.out;have:=C56.out;omega
    obtain ⟨gu,cu2,eu,GU,GUL,_⟩:=Kd.R_form HO.out hU0
    obtain ⟨rfl,rfl⟩:Au=some ⟨gu,0,none⟩∧cu=cu2:=by injection eu;exact ⟨by assumption,by assumption⟩
    have GU_:=aA.mk GU;have GUL_:=aA.mk (show gu < (wr.drewN nd_).heap.size from GUL);clear eu GU GUL hU0 HN;go_wp2_with (first|(go_at_call 99;(try simp only [aJ,aK]);(with_reducible refine (cI.calls k1 (aC l0 i).f0 (aC l0 i).f1 (aC l0 i).f2 (aC l0 i).f3 (aC l0 i).f4 (aC l0 i).f5 ps _ HP.out).mono ?_);rintro e w8 ⟨v11,rfl,ho,hb⟩;have HBz:=aA.mk hb;have HPS:=aA.mk ho;clear ho hb));have HO2:=aA.mk (Kd.R_below (Kd.R_drewN HO.out _) HBz.out);have HB2:=aA.mk (dX (aV HBy.out _) (aV HBy.out _).size HBz.out);have HPS2:=aA.mk (Kd.R_lower (Kd.R_mono (Kd.R_bound HPS.out) (ok':=fun k=>k≠gu) (fun k hk=>by have:=hk.2.1;have:=GUL_.out;omega)) (aV HBy.out nd_).size);obtain ⟨Ap,cp,ep⟩:=Kd.R_slice HPS2.out;subst ep;clear HPS HBz HO HBy him hhm hx0 hx1 hx2 hx3 hx4 hx5 d5 d6 d7 d8 c5 c6 c7 c8
    go_loopg [12] k1 (fun kq v12 wr=>∃ (j:Int) (us2:List Int),v12 = .int .i64 j∧aA (zI kq ps j us2=some us')∧aA (kq≤k1)∧aA (us2.length=us0.length)∧aA (Kd.R (Kd.int .i64) 3 wr wb.heap.size (fun _=>True) (.slice (some ⟨gu,0,none⟩) us0.length cu) us2)∧aA (Kd.R (Kd.int .i64) 3 wr wb.heap.size (fun k=>k≠gu) (.slice Ap ps.length cp) ps)∧aA (Below wb.heap.size wb wr))
    case atStart=>exact ⟨0,us,rfl,HQ2,⟨Nat.le_refl _⟩,HLU,HO2,HPS2,HB2⟩
    case round =>
     clear HQ2 HO2 HPS2 HB2 HLU;obtain ⟨j,us2,rfl,HA,HK2,HLU,HO,HPS,HBy⟩:=hrel
     cases gk with
     | zero=>exact absurd HA.out (by simp [zI])
     | succ k2 =>
     have H:=HA.out;clear HA;simp only [zI] at H
     by_cases c5:j < (ps.length:Int)
     ·rw [if_pos c5] at H
      by_cases c6:0≤j∧(0≤rd ps j∧rd ps j < (us2.length:Int))
      case neg=>rw [if_neg c6] at H;cases H
      rw [if_pos c6] at H;have H2:=aA.mk H;clear H;obtain ⟨c6,c7,c8⟩:=c6;rw [HLU.out] at c8;obtain ⟨ap,e_,hxp⟩:=Kd.at_int (Kd.R_reads' HPS.out).2.2 j c6 c5;cases e_;obtain ⟨hy,hyf⟩:=Kd.R_celln (0:Int) HO.out _ c7 c8
      change wr.cell? _=some (.int .i64 (rd us2 (rd ps j))) at hy
      have d5:decide (j < (ps.length:Int))=true:=decide_eq_true c5;have d6:decide (0≤j)=true:=decide_eq_true c6;have d7:decide (0≤rd ps j)=true:=decide_eq_true c7;have d8:decide (rd ps j < (us0.length:Int))=true:=decide_eq_true c8;replace c5:=eq_true c5;replace c6:=eq_true c6;replace c7:=eq_true c7;replace c8:=eq_true c8
      go_upto_region 31 with (fail)
      refine eW (n:=15) (S:=fun w'=>∀ p,w'.cell? p=wr.cell? p) (ds:=[14]) (tF 0 15) (by kernel_rfl) rfl rfl (fun _=>rfl) (fun hHeld=>?_)
      repeat (first|(refine oR (v:=undef) (a':=?_) rfl rfl (by kernel_rfl) (fun _ _ _ h=>h) (Or.inr ⟨by rfl,rfl⟩) ?_ ?_;rotate_left;(simp only [Act.put,List.replicate,List.cons_append,List.nil_append,List.append_nil,List.setIfInBounds_toArray,List.set_cons_zero,List.set_cons_succ,aJ,aK];rfl))|(refine oR (v:=?_) (a':=?_) rfl rfl (by kernel_rfl) (fun _ _ _ h=>h) (Or.inl ⟨by rfl,?_⟩) ?_ ?_;rotate_left;(intro w';go_simp;with_reducible rfl);rotate_left;(simp only [Act.put,List.replicate,List.cons_append,List.nil_append,List.append_nil,List.setIfInBounds_toArray,List.set_cons_zero,List.set_cons_succ,aJ,aK];rfl))|(refine wV (v:=?_) (a':=?_) rfl rfl (by kernel_rfl) (fun _ _ _ h=>h) (Or.inl ⟨by rfl,?_⟩) hHeld ?_ ?_;rotate_left;(intro w' s0;go_simp;with_reducible rfl);rotate_left;(simp only [Act.put,List.replicate,List.cons_append,List.nil_append,List.append_nil,List.setIfInBounds_toArray,List.set_cons_zero,List.set_cons_succ,aJ,aK];rfl)))
      refine wO (w1:=?_) rfl rfl (by kernel_rfl) (by decide) (by rfl) ?_ (by kernel_rfl) ?_;rotate_left;(go_simp;rfl);go_wp2;go_roundg k2
      case measure=>have:=HK2.out;omega
      case rel=>exact ⟨wrap64 (j + 1),_,rfl,H2,⟨by have:=HK2.out;omega⟩,⟨by rw [List.length_set];exact HLU.out⟩,⟨(Kd.R_putg (Kd.R_drew HO.out) (rd ps j) _).1⟩,⟨Kd.R_far (Kd.R_drew HPS.out) (fun _ h=>h) _⟩,⟨Below.setCell (gB HBy.out) GU_.out _⟩⟩
     ·rw [if_neg c5] at H;have d5:decide (j < (ps.length:Int))=false:=decide_eq_false c5;obtain rfl:=os H;clear H c5;go_wp2;go_roundg k1
      case measure=>have:=HK1.out;omega
      case rel=>exact ⟨wrap64 (i + 1),_,rfl,H',⟨by have:=HK1.out;omega⟩,HLU,HO,HBy⟩
   ·rw [if_neg c5] at H;have d5:decide (i < (l0.length:Int))=false:=decide_eq_false c5;obtain rfl:=os H;clear H c5;go_wp2;go_meet;exact ⟨us,⟨rfl⟩,HLU,HBy,HO⟩
 case rest =>
 clear HO HBy HU;obtain ⟨us,HE,HLU,HBy,HO⟩:=hcut;obtain rfl:=HE.out;have HA0:=aA.mk (show rX k l0 is hs us 0=some r from H0.out);obtain ⟨wz,hwz⟩:∃ W:World,W=wc:=⟨_,rfl⟩;rw [← hwz] at HBy HO ⊢;clear hwz HE H0;have CI2:=aA.mk (Kd.C_below CI.out HBy.out);have CH2:=aA.mk (Kd.C_below CH.out HBy.out);have CU:=aA.mk (Kd.R_reads' HO.out).2.2;clear CI CH;go_wp2_with fail
 go_loopg [13] k (fun kq v13 wr=>∃ (i:Int),v13 = .int .i64 i∧aA (rX kq l0 is hs us i=some r)∧aA (kq≤k)∧aA (Below wz.heap.size wz wr))
 case atStart=>exact ⟨0,rfl,HA0,⟨Nat.le_refl _⟩,⟨Below.refl _ _⟩⟩
 case round =>
  clear HA0;obtain ⟨i,rfl,HA,HK1,HBq⟩:=hrel
  cases gk with
  | zero=>exact absurd HA.out (by simp [rX])
  | succ k1 =>
  have H:=HA.out;clear HA;simp only [rX] at H
  by_cases c5:i < (l0.length:Int)
  ·rw [if_pos c5] at H
   by_cases c6:0≤i∧(i < (is.length:Int)∧(i < (hs.length:Int)∧i < (us.length:Int)))
   case neg=>rw [if_neg c6] at H;cases H
   rw [if_pos c6] at H;obtain ⟨c6,c7,c8,c9⟩:=c6;obtain ⟨ai,e_,him⟩:=Kd.at_bool CI2.out i c6 c7;cases e_;obtain ⟨ah,e_,hhm⟩:=Kd.at_bool CH2.out i c6 c8;cases e_;obtain ⟨au,e_,hum⟩:=Kd.at_int CU.out i c6 c9;cases e_;replace him:=kZ HBq him;replace hhm:=kZ HBq hhm;replace hum:=kZ HBq hum;rw [HLU.out] at c9;have d5:decide (i < (l0.length:Int))=true:=decide_eq_true c5;have d6:decide (0≤i)=true:=decide_eq_true c6;have d7:decide (i < (is.length:Int))=true:=decide_eq_true c7;have d8:decide (i < (hs.length:Int))=true:=decide_eq_true c8;have d9:decide (i < (us0.length:Int))=true:=decide_eq_true c9;replace c5:=eq_true c5;replace c6:=eq_true c6;replace c7:=eq_true c7;replace c8:=eq_true c8;replace c9:=eq_true c9
   by_cases c10:cW false is i=true∧(cW false hs i=true∧1 < rd us i)
   ·rw [if_pos c10] at H;obtain ⟨b1,b2,b3⟩:=c10;rw [b1] at him;rw [b2] at hhm;have b4:=decide_eq_true b3;obtain rfl:=os H;clear H b1 b2 b3;go_wp2;go_ret;exact ⟨by first|rfl|(simp;done),(dX HB.out HB.out.size (dX HBx.out HBx.out.size (dX HBy.out HBy.out.size (by repeat (first|(with_reducible first|exact HBq.out|apply bS|apply aV|apply bQ)|exact HBq.out)))))⟩
   ·rw [if_neg c10] at H;have H':=aA.mk H
    have b1:cW false is i=false∨(cW false is i=true∧(cW false hs i=false∨(cW false hs i=true∧decide (1 < rd us i)=false))):=by
     rcases vQ (fun h=>c10 ⟨h.1,by have:=h.2;rw [Bool.and_eq_true,decide_eq_true_eq] at this;exact this⟩:¬ (cW false is i=true∧(cW false hs i && decide (1 < rd us i))=true)) with h | ⟨h,h2⟩
     ·exact Or.inl h
     ·refine Or.inr ⟨h,?_⟩
      revert h2
      cases cW false hs i <;> simp
    clear H c10
    rcases b1 with b1 | ⟨b1,b2 | ⟨b2,b3⟩⟩
    all_goals (rw [b1] at him;(try rw [b2] at hhm);clear b1;(try clear b2);go_wp2;go_roundg k1;(case measure=>have:=HK1.out;omega);(case rel=>exact ⟨wrap64 (i + 1),rfl,H',⟨by have:=HK1.out;omega⟩,⟨(by repeat (first|(with_reducible first|exact HBq.out|apply bS|apply aV|apply bQ)|exact HBq.out))⟩⟩))
  ·rw [if_neg c5] at H;have d5:decide (i < (l0.length:Int))=false:=decide_eq_false c5;obtain rfl:=os H;clear H c5;go_wp2;go_ret;exact ⟨by first|rfl|(simp;done),(dX HB.out HB.out.size (dX HBx.out HBx.out.size (dX HBy.out HBy.out.size (by repeat (first|(with_reducible first|exact HBq.out|apply bS|apply aV|apply bQ)|exact HBq.out)))))⟩
def dK.l0:Nat→List (bN)→List Bool→Int→Int→Option (Int)
 | 0,_,_,_,_=>none
 | k + 1,x0,x3,x4,x5=>if x5 < (x0.length:Int) then (if 0≤x5 then (if x5 < (x3.length:Int) then (if cW false x3 x5=true then ((bR.f ((aC x0 x5).f0)).bind fun A7=>(if A7=true then (dK.l0 k x0 x3 (wrap64 (x4 + ((aC x0 x5).f4))) (wrap64 (x5 + 1))) else (dK.l0 k x0 x3 x4 (wrap64 (x5 + 1))))) else (dK.l0 k x0 x3 x4 (wrap64 (x5 + 1)))) else (none)) else (none)) else (some x4)
def dK.f (k:Nat) (l0:List (bN)):Option (Int):=(cN.f k l0).bind fun A8=>(if A8=true then ((bG.f k l0).bind fun A3=>(dK.l0 k l0 A3 0 0)) else (some 0))
theorem dK.calls (k:Nat) (A0:Option Addr) (c0:Nat) (l0:List (bN)) (r:Int) (w:World) (hr0:Kd.C eV w A0 l0.length l0) (hc0:l0.length≤c0) (h:dK.f k l0=some r) :
  Calls Try.prog 46 #[.slice A0 l0.length c0] w fun e w'=>e = .returned (.int .i64 r)∧Below w.heap.size w w':=by
 have HR0:=aA.mk hr0;have HC0:=aA.mk hc0;clear hr0 hc0;have HB:=aA.mk (Below.refl w.heap.size w);have H:((cN.f k l0).bind fun A8=>(if A8=true then ((bG.f k l0).bind fun A3=>(dK.l0 k l0 A3 0 0)) else (some 0)))=some r:=h;clear h;replace H:=ob H;obtain ⟨A8,A20,H⟩:=H;replace H:(if A8=true then ((bG.f k l0).bind fun A3=>(dK.l0 k l0 A3 0 0)) else (some 0))=some r:=H;have A2:=aA.mk A20;clear A20
 by_cases c3:A8=true
 ·subst c3
  have H1:((bG.f k l0).bind fun A3=>(dK.l0 k l0 A3 0 0))=some r:=by rw [if_pos rfl] at H;exact H
  clear H;have H:=H1;clear H1;replace H:=ob H;obtain ⟨A3,A40,H⟩:=H;replace H:(dK.l0 k l0 A3 0 0)=some r:=H;have A4:=aA.mk A40;clear A40;have H':=aA.mk H;clear H
  go_enter Try.func46,Try.ntmps46
  go_wp2_with (first|((with_reducible refine aD (f:=96) rfl ?_);refine aT (some 7) rfl rfl Try.func96 (by kernel_rfl) rfl #[.slice A0 l0.length c0] rfl ml ?_;(with_reducible refine (cN.calls k _ _ l0 true _ ?side1 ?side2 A2.out).mono ?_);(case side1=>exact cw HR0.out);(case side2=>exact HC0.out);rintro e w5 ⟨rfl,hb⟩;refine ⟨_,rfl,?_⟩;replace HB:=aA.mk (aE (tb HB) hb);(try clear hb);(try clear hb2);(try clear hk);(try clear hi))|((with_reducible refine aD (f:=102) rfl ?_);refine aT (some 10) rfl rfl Try.func102 (by kernel_rfl) rfl #[.slice A0 l0.length c0] rfl ml ?_;(with_reducible refine (bG.calls k _ _ l0 A3 _ ?side1 ?side2 A4.out).mono ?_);(case side1=>exact cw (Kd.C_below HR0.out HB.out));(case side2=>exact HC0.out);rintro e w6 ⟨v103,rfl,ho0,hb⟩;refine ⟨_,rfl,?_⟩;have A9:=aA.mk (Kd.R_lower ho0 (aM (tb HB)));replace HB:=aA.mk (aE (tb HB) hb);(try clear hb);(try clear hb2);(try clear hk);(try clear hi);(try clear ho0)))
  go_loopg [4,5] k (fun kq v4 v5 w'=>∃ (A5:Int) (A1:Int),v4 = .int .i64 A5∧v5 = .int .i64 A1∧aA (dK.l0 kq l0 A3 A5 A1=some r)∧aA (kq≤k)∧aA (Kd.R Kd.bool 4 w' w.heap.size (fun _=>True) v103 A3)∧aA (Below w.heap.size w w'))
  case atStart=>exact ⟨(0),(0),(by first|rfl|(simp;done)|(simp [*];done)),(by first|rfl|(simp;done)|(simp [*];done)),H',⟨Nat.le_refl _⟩,⟨ra A9⟩,⟨by exact tb HB⟩⟩
  case round =>
   clear H';obtain ⟨A5,A1,rfl,rfl,HA,HK1,A6,HB⟩:=hrel
   cases gk with
   | zero=>exact absurd HA.out (by simp [dK.l0])
   | succ k1 =>
    have H:=HA.out;clear HA;simp only [dK.l0] at H
    by_cases c7:A1 < (l0.length:Int)
    ·rw [if_pos c7] at H;have c7b0:decide (A1 < (l0.length:Int))=true:=decide_eq_true c7;clear c7
     by_cases c8:0≤A1
     ·rw [if_pos c8] at H;have c8b0:decide (0≤A1)=true:=decide_eq_true c8;clear c8
      by_cases c9:A1 < (A3.length:Int)
      ·rw [if_pos c9] at H;have c9b0:decide (A1 < (A3.length:Int))=true:=decide_eq_true c9;clear c9;obtain ⟨bq10,hbq10⟩:∃ b_:Bool,b_=(cW false A3 A1):=⟨_,rfl⟩
       replace H:(if bq10=true then ((bR.f ((aC l0 A1).f0)).bind fun A7=>(if A7=true then (dK.l0 k1 l0 A3 (wrap64 (A5 + ((aC l0 A1).f4))) (wrap64 (A1 + 1))) else (dK.l0 k1 l0 A3 A5 (wrap64 (A1 + 1))))) else (dK.l0 k1 l0 A3 A5 (wrap64 (A1 + 1))))=some r:=by rw [← hbq10] at H;exact H
       have Nbq10:=aA.mk hbq10;clear hbq10
       by_cases c11:bq10=true
       ·subst c11
        have H1:((bR.f ((aC l0 A1).f0)).bind fun A7=>(if A7=true then (dK.l0 k1 l0 A3 (wrap64 (A5 + ((aC l0 A1).f4))) (wrap64 (A1 + 1))) else (dK.l0 k1 l0 A3 A5 (wrap64 (A1 + 1)))))=some r:=by rw [if_pos rfl] at H;exact H
        clear H;have H:=H1;clear H1;replace H:=ob H;obtain ⟨A7,A120,H⟩:=H
        try dsimp only at H
        have A12:=aA.mk A120;clear A120
        by_cases c13:A7=true
        ·subst c13
         have H1:(dK.l0 k1 l0 A3 (wrap64 (A5 + ((aC l0 A1).f4))) (wrap64 (A1 + 1)))=some r:=by rw [if_pos rfl] at H;exact H
         clear H;have H:=H1;clear H1;have H':=aA.mk H;clear H;obtain ⟨Ao14,co14,eo14⟩:=Kd.R_slice A6.out;subst eo14;have p105:0≤(A1:Int):=od;have q105:A1 < (A3.length:Int):=od;obtain ⟨ad105,e105,hx105_0⟩:=Kd.at_bool (Kd.R_reads' A6.out).2.2 A1 p105 q105
         (try rw [← Nbq10.out] at hx105_0)
         cases e105;replace p105:=eq_true p105;replace q105:=eq_true q105;have p106:0≤(A1:Int):=od;have q106:A1 < (l0.length:Int):=od;obtain ⟨ad106,e106,hx106_0,hx106_1,hx106_2,hx106_3,hx106_4,hx106_5⟩:=dD HR0.out A1 p106 q106;cases e106;replace hx106_0:=ct HB hx106_0;replace hx106_1:=ct HB hx106_1;replace hx106_2:=ct HB hx106_2;replace hx106_3:=ct HB hx106_3;replace hx106_4:=ct HB hx106_4;replace hx106_5:=ct HB hx106_5;replace p106:=eq_true p106;replace q106:=eq_true q106;go_wp2_with (first|(go_at_call 103;(try simp only [aJ,aK]);(with_reducible refine (bR.calls ((aC l0 A1).f0) true _ A12.out).mono ?_);rintro e w' ⟨rfl,⟨nd,rfl⟩⟩;have p108:0≤(A1:Int):=od;have q108:A1 < (l0.length:Int):=od;obtain ⟨ad108,e108,hx108_0,hx108_1,hx108_2,hx108_3,hx108_4,hx108_5⟩:=dD HR0.out A1 p108 q108;obtain rfl:ad106=ad108:=(by injection e108);replace hx108_0:=ct HB hx108_0;replace hx108_1:=ct HB hx108_1;replace hx108_2:=ct HB hx108_2;replace hx108_3:=ct HB hx108_3;replace hx108_4:=ct HB hx108_4;replace hx108_5:=ct HB hx108_5;replace p108:=eq_true p108;replace q108:=eq_true q108));go_roundg k1
         case measure=>have:=HK1.out;omega
         case rel=>exact ⟨(wrap64 (A5 + ((aC l0 A1).f4))),(wrap64 (A1 + 1)),(by first|rfl|(simp;done)|(simp [*];done)),(by first|rfl|(simp;done)|(simp [*];done)),H',⟨by have:=HK1.out;omega⟩,⟨ra A6⟩,⟨by exact tb HB⟩⟩
        ·replace c13:=Bool.eq_false_iff.mpr c13;subst c13
         have H1:(dK.l0 k1 l0 A3 A5 (wrap64 (A1 + 1)))=some r:=by rw [if_neg (show ¬ (false=true) by decide)] at H;exact H
         clear H;have H:=H1;clear H1;have H':=aA.mk H;clear H;obtain ⟨Ao15,co15,eo15⟩:=Kd.R_slice A6.out;subst eo15;have p105:0≤(A1:Int):=od;have q105:A1 < (A3.length:Int):=od;obtain ⟨ad105,e105,hx105_0⟩:=Kd.at_bool (Kd.R_reads' A6.out).2.2 A1 p105 q105
         (try rw [← Nbq10.out] at hx105_0)
         cases e105;replace p105:=eq_true p105;replace q105:=eq_true q105;have p106:0≤(A1:Int):=od;have q106:A1 < (l0.length:Int):=od;obtain ⟨ad106,e106,hx106_0,hx106_1,hx106_2,hx106_3,hx106_4,hx106_5⟩:=dD HR0.out A1 p106 q106;cases e106;replace hx106_0:=ct HB hx106_0;replace hx106_1:=ct HB hx106_1;replace hx106_2:=ct HB hx106_2;replace hx106_3:=ct HB hx106_3;replace hx106_4:=ct HB hx106_4;replace hx106_5:=ct HB hx106_5;replace p106:=eq_true p106;replace q106:=eq_true q106;go_wp2_with (first|(go_at_call 103;(try simp only [aJ,aK]);(with_reducible refine (bR.calls ((aC l0 A1).f0) false _ A12.out).mono ?_);rintro e w' ⟨rfl,⟨nd,rfl⟩⟩));go_roundg k1
         case measure=>have:=HK1.out;omega
         case rel=>exact ⟨(A5),(wrap64 (A1 + 1)),(by first|rfl|(simp;done)|(simp [*];done)),(by first|rfl|(simp;done)|(simp [*];done)),H',⟨by have:=HK1.out;omega⟩,⟨ra A6⟩,⟨by exact tb HB⟩⟩
       ·replace c11:=Bool.eq_false_iff.mpr c11;subst c11
        have H1:(dK.l0 k1 l0 A3 A5 (wrap64 (A1 + 1)))=some r:=by rw [if_neg (show ¬ (false=true) by decide)] at H;exact H
        clear H;have H:=H1;clear H1;have H':=aA.mk H;clear H;obtain ⟨Ao16,co16,eo16⟩:=Kd.R_slice A6.out;subst eo16;have p105:0≤(A1:Int):=od;have q105:A1 < (A3.length:Int):=od;obtain ⟨ad105,e105,hx105_0⟩:=Kd.at_bool (Kd.R_reads' A6.out).2.2 A1 p105 q105
        (try rw [← Nbq10.out] at hx105_0)
        cases e105;replace p105:=eq_true p105;replace q105:=eq_true q105;go_wp2;go_roundg k1
        case measure=>have:=HK1.out;omega
        case rel=>exact ⟨(A5),(wrap64 (A1 + 1)),(by first|rfl|(simp;done)|(simp [*];done)),(by first|rfl|(simp;done)|(simp [*];done)),H',⟨by have:=HK1.out;omega⟩,⟨ra A6⟩,⟨by exact tb HB⟩⟩
      ·rw [if_neg c9] at H;exact absurd H (by simp)
     ·rw [if_neg c8] at H;exact absurd H (by simp)
    ·rw [if_neg c7] at H;have c7b0:decide (A1 < (l0.length:Int))=false:=decide_eq_false c7;clear c7;obtain rfl:=os H;go_wp2;go_ret;exact ⟨er,tb HB⟩
 ·replace c3:=Bool.eq_false_iff.mpr c3;subst c3
  have H1:(some 0)=some r:=by rw [if_neg (show ¬ (false=true) by decide)] at H;exact H
  clear H;have H:=H1;clear H1;obtain rfl:=os H
  go_enter Try.func46,Try.ntmps46
  go_wp2_with (first|((with_reducible refine aD (f:=96) rfl ?_);refine aT (some 7) rfl rfl Try.func96 (by kernel_rfl) rfl #[.slice A0 l0.length c0] rfl ml ?_;(with_reducible refine (cN.calls k _ _ l0 false _ ?side1 ?side2 A2.out).mono ?_);(case side1=>exact cw HR0.out);(case side2=>exact HC0.out);rintro e w17 ⟨rfl,hb⟩;refine ⟨_,rfl,?_⟩;replace HB:=aA.mk (aE (tb HB) hb);(try clear hb);(try clear hb2);(try clear hk);(try clear hi)));go_ret;exact ⟨er,tb HB⟩
def dN.f (s0_0:List Int) (s0_1:Int) (s0_2:Int):Option (Int × Int × Int):=if s0_1 < (s0_0.length:Int) then (if 0≤s0_1 then (some (Go.bits .and .i64 (wrap64 ((Go.bits .and .i64 (Go.bits .xor .i64 ((wrap64 ((wrap64 (s0_2 * 6364136223846793005)) + 1442695040888963407)) / 8589934592) ((wrap64 ((wrap64 (s0_2 * 6364136223846793005)) + 1442695040888963407)) / 35184372088832)) 255) + (wrap64 (rd s0_0 s0_1)))) 255,wrap64 (s0_1 + 1),wrap64 ((wrap64 (s0_2 * 6364136223846793005)) + 1442695040888963407))) else (none)) else (some (Go.bits .and .i64 (Go.bits .xor .i64 ((wrap64 ((wrap64 (s0_2 * 6364136223846793005)) + 1442695040888963407)) / 8589934592) ((wrap64 ((wrap64 (s0_2 * 6364136223846793005)) + 1442695040888963407)) / 35184372088832)) 255,s0_1,wrap64 ((wrap64 (s0_2 * 6364136223846793005)) + 1442695040888963407)))
theorem dN.calls (g:Nat) (s0_0:List Int) (s0_1:Int) (s0_2:Int) (r1:Int) (r2:Int) (r3:Int) (w0 w:World) (hI:cE w0 w g s0_0 s0_1 s0_2) (hB:Below w0.heap.size w0 w) (h:dN.f s0_0 s0_1 s0_2=some (r1,r2,r3)) :
  Calls Try.prog 109 #[.pointer (some ⟨g,0,none⟩)] w fun e w'=>e = .returned (.int .i64 r1)∧cE w0 w' g s0_0 r2 r3∧Below w0.heap.size w0 w'∧cF w w' g none:=by
 have HI0:=aA.mk hI;have HK:=aA.mk (cF.refl w g none);have HL:=aA.mk hB.size;clear hI;have HW0:=aA.mk hB.size;have HB:=aA.mk hB;clear hB;have H:(if s0_1 < (s0_0.length:Int) then (if 0≤s0_1 then (some (Go.bits .and .i64 (wrap64 ((Go.bits .and .i64 (Go.bits .xor .i64 ((wrap64 ((wrap64 (s0_2 * 6364136223846793005)) + 1442695040888963407)) / 8589934592) ((wrap64 ((wrap64 (s0_2 * 6364136223846793005)) + 1442695040888963407)) / 35184372088832)) 255) + (wrap64 (rd s0_0 s0_1)))) 255,wrap64 (s0_1 + 1),wrap64 ((wrap64 (s0_2 * 6364136223846793005)) + 1442695040888963407))) else (none)) else (some (Go.bits .and .i64 (Go.bits .xor .i64 ((wrap64 ((wrap64 (s0_2 * 6364136223846793005)) + 1442695040888963407)) / 8589934592) ((wrap64 ((wrap64 (s0_2 * 6364136223846793005)) + 1442695040888963407)) / 35184372088832)) 255,s0_1,wrap64 ((wrap64 (s0_2 * 6364136223846793005)) + 1442695040888963407))))=some (r1,r2,r3):=h;clear h
 by_cases c2:s0_1 < (s0_0.length:Int)
 ·rw [if_pos c2] at H;have c2b0:decide (s0_1 < (s0_0.length:Int))=true:=decide_eq_true c2;clear c2
  by_cases c3:0≤s0_1
  ·rw [if_pos c3] at H;have c3b0:decide (0≤s0_1)=true:=decide_eq_true c3;clear c3;simp only [Option.some.injEq,Prod.mk.injEq] at H;obtain ⟨rfl,rfl,rfl⟩:=H;obtain ⟨ASz4_0,cSz4_0,HGz4,hgz4,HSz4_0⟩:=HI0.out;have hcz4_0:=nH HGz4;have hcz4_1:=nP HGz4;have hcz4_2:=nV HGz4;have hfz4_1:=aW HGz4 1;have hfz4_2:=aW HGz4 2;clear HGz4 hgz4;have p101:0≤(s0_1:Int):=od;have q101:s0_1 < (s0_0.length:Int):=od;obtain ⟨ad101,e101,hx101_0⟩:=Kd.at_int HSz4_0 s0_1 p101 q101;cases e101;have hn101_0:ad101.block≠g:=Nat.ne_of_lt (Nat.lt_of_lt_of_le (by have:=World.block_lt_of_cell? _ _ hx101_0;first|rwa [add_block] at this|exact this) (cE.ge HI0.out));replace hx101_0:=hL HB.out hx101_0;replace hx101_0:=(cell_far (p:=⟨g,2,none⟩) (by first|(rw [add_block];exact hn101_0)|(show (Addr.add _ _).block≠_;rw [add_block];exact hn101_0)|exact hn101_0) (.int .i64 (wrap64 ((wrap64 (s0_2 * 6364136223846793005)) + 1442695040888963407)))).trans hx101_0
   (try have hy101_0:=fun (n_:Nat)=>(show (((w.drewN n_).setCell ⟨g,2,none⟩ (.int .i64 (wrap64 ((wrap64 (s0_2 * 6364136223846793005)) + 1442695040888963407))))).cell? _=some _ from hx101_0))
   clear hn101_0;replace p101:=eq_true p101;replace q101:=eq_true q101
   go_enter Try.func109,Try.ntmps109
   go_wp2
   repeat (go_quiet (fail);try go_wp2)
   go_ret;exact ⟨er,fO HI0,fG HB HI0,tp HK⟩
  ·rw [if_neg c3] at H;exact absurd H (by simp)
 ·rw [if_neg c2] at H;have c2b0:decide (s0_1 < (s0_0.length:Int))=false:=decide_eq_false c2;clear c2;simp only [Option.some.injEq,Prod.mk.injEq] at H;obtain ⟨rfl,rfl,rfl⟩:=H;obtain ⟨ASz5_0,cSz5_0,HGz5,hgz5,HSz5_0⟩:=HI0.out;have hcz5_0:=nH HGz5;have hcz5_1:=nP HGz5;have hcz5_2:=nV HGz5;have hfz5_1:=aW HGz5 1;have hfz5_2:=aW HGz5 2;clear HGz5 hgz5
  go_enter Try.func109,Try.ntmps109
  go_wp2
  repeat (go_quiet (fail);try go_wp2)
  go_ret;exact ⟨er,fO HI0,fG HB HI0,tp HK⟩
def bO.f (s0_0:List Int) (s0_1:Int) (s0_2:Int) (a1:Int):Option (Int × Int × Int):=if a1≤0 then (some (0,s0_1,s0_2)) else (if a1≤256 then ((dN.f s0_0 s0_1 s0_2).bind fun bt101=>(if a1=0 then (none) else (some (Int.tmod bt101.1 a1,bt101.2.1,bt101.2.2)))) else ((dN.f s0_0 s0_1 s0_2).bind fun bt104=>((dN.f s0_0 bt104.2.1 bt104.2.2).bind fun bt107=>((dN.f s0_0 bt107.2.1 bt107.2.2).bind fun bt110=>((dN.f s0_0 bt110.2.1 bt110.2.2).bind fun bt113=>(if a1=0 then (none) else (some (Int.tmod (wrap64 ((wrap64 ((wrap64 ((wrap64 (bt104.1 * 16777216)) + (wrap64 (bt107.1 * 65536)))) + (wrap64 (bt110.1 * 256)))) + bt113.1)) a1,bt113.2.1,bt113.2.2))))))))
theorem bO.calls (g:Nat) (s0_0:List Int) (s0_1:Int) (s0_2:Int) (a1:Int) (r1:Int) (r2:Int) (r3:Int) (w0 w:World) (hI:cE w0 w g s0_0 s0_1 s0_2) (hB:Below w0.heap.size w0 w) (h:bO.f s0_0 s0_1 s0_2 a1=some (r1,r2,r3)) :
  Calls Try.prog 55 #[.pointer (some ⟨g,0,none⟩),.int .i64 a1] w fun e w'=>e = .returned (.int .i64 r1)∧cE w0 w' g s0_0 r2 r3∧Below w0.heap.size w0 w'∧cF w w' g none:=by
 have HI0:=aA.mk hI;have HK:=aA.mk (cF.refl w g none);have HL:=aA.mk hB.size;clear hI;have HW0:=aA.mk hB.size;have HB:=aA.mk hB;clear hB;have H:(if a1≤0 then (some (0,s0_1,s0_2)) else (if a1≤256 then ((dN.f s0_0 s0_1 s0_2).bind fun bt101=>(if a1=0 then (none) else (some (Int.tmod bt101.1 a1,bt101.2.1,bt101.2.2)))) else ((dN.f s0_0 s0_1 s0_2).bind fun bt104=>((dN.f s0_0 bt104.2.1 bt104.2.2).bind fun bt107=>((dN.f s0_0 bt107.2.1 bt107.2.2).bind fun bt110=>((dN.f s0_0 bt110.2.1 bt110.2.2).bind fun bt113=>(if a1=0 then (none) else (some (Int.tmod (wrap64 ((wrap64 ((wrap64 ((wrap64 (bt104.1 * 16777216)) + (wrap64 (bt107.1 * 65536)))) + (wrap64 (bt110.1 * 256)))) + bt113.1)) a1,bt113.2.1,bt113.2.2)))))))))=some (r1,r2,r3):=h;clear h
 by_cases c3:a1≤0
 ·rw [if_pos c3] at H;have c3b0:decide (a1≤0)=true:=decide_eq_true c3;clear c3;simp only [Option.some.injEq,Prod.mk.injEq] at H;obtain ⟨rfl,rfl,rfl⟩:=H
  go_enter Try.func55,Try.ntmps55
  go_wp2;go_ret;exact ⟨er,fO HI0,fG HB HI0,tp HK⟩
 ·rw [if_neg c3] at H;have c3b0:decide (a1≤0)=false:=decide_eq_false c3;clear c3
  by_cases c4:a1≤256
  ·rw [if_pos c4] at H;have c4b0:decide (a1≤256)=true:=decide_eq_true c4;clear c4;replace H:=ob H;obtain ⟨⟨A0,A1,A2⟩,A50,H⟩:=H;replace H:(if a1=0 then (none) else (some (Int.tmod A0 a1,A1,A2)))=some (r1,r2,r3):=H;have A5:=aA.mk A50;clear A50
   by_cases c6:a1=0
   ·rw [if_pos c6] at H;exact absurd H (by simp)
   ·rw [if_neg c6] at H;have c6b0:(a1 == 0)=false:=beq_eq_false_iff_ne.mpr c6;have c6b1:(a1 != 0)=true:=bne_iff_ne.mpr c6;simp only [Option.some.injEq,Prod.mk.injEq] at H;obtain ⟨rfl,rfl,rfl⟩:=H
    go_enter Try.func55,Try.ntmps55
    go_wp2_with (first|((with_reducible refine aD (f:=109) rfl ?_);refine aT (some 14) rfl rfl Try.func109 (by kernel_rfl) rfl #[.pointer (some ⟨g,0,none⟩)] rfl ml ?_;(with_reducible refine (dN.calls g s0_0 s0_1 s0_2 A0 A1 A2 w0 _ ?side1 ?side2 A5.out).mono ?_);(case side1=>exact fO HI0);(case side2=>exact fG HB HI0);rintro e w7 ⟨rfl,hi,hb,hk⟩;refine ⟨_,rfl,?_⟩;replace HK:=aA.mk (cF.trans (tp HK) hk (.inl rfl));replace HB:=aA.mk (hb);replace HI0:=aA.mk (hi);(try clear hb);(try clear hb2);(try clear hk);(try clear hi)));go_ret;exact ⟨er,fO HI0,fG HB HI0,tp HK⟩
  ·rw [if_neg c4] at H;have c4b0:decide (a1≤256)=false:=decide_eq_false c4;clear c4;replace H:=ob H;obtain ⟨⟨t104,A3,A4⟩,A80,H⟩:=H
   try dsimp only at H
   have A8:=aA.mk A80;clear A80;replace H:=ob H;obtain ⟨⟨t107,A6,A7⟩,A90,H⟩:=H
   try dsimp only at H
   have A9:=aA.mk A90;clear A90;replace H:=ob H;obtain ⟨⟨t110,Aa,Ab⟩,A100,H⟩:=H
   try dsimp only at H
   have A10:=aA.mk A100;clear A100;replace H:=ob H;obtain ⟨⟨t113,t114,t115⟩,A110,H⟩:=H
   try dsimp only at H
   have A11:=aA.mk A110;clear A110
   by_cases c12:a1=0
   ·rw [if_pos c12] at H;exact absurd H (by simp)
   ·rw [if_neg c12] at H;have c12b0:(a1 == 0)=false:=beq_eq_false_iff_ne.mpr c12;have c12b1:(a1 != 0)=true:=bne_iff_ne.mpr c12;simp only [Option.some.injEq,Prod.mk.injEq] at H;obtain ⟨rfl,rfl,rfl⟩:=H
    go_enter Try.func55,Try.ntmps55
    go_wp2_with (first|((with_reducible refine aD (f:=109) rfl ?_);refine aT (some 18) rfl rfl Try.func109 (by kernel_rfl) rfl #[.pointer (some ⟨g,0,none⟩)] rfl ml ?_;(with_reducible refine (dN.calls g s0_0 s0_1 s0_2 t104 A3 A4 w0 _ ?side1 ?side2 A8.out).mono ?_);(case side1=>exact fO HI0);(case side2=>exact fG HB HI0);rintro e w13 ⟨rfl,hi,hb,hk⟩;refine ⟨_,rfl,?_⟩;replace HK:=aA.mk (cF.trans (tp HK) hk (.inl rfl));replace HB:=aA.mk (hb);replace HI0:=aA.mk (hi);(try clear hb);(try clear hb2);(try clear hk);(try clear hi))|((with_reducible refine aD (f:=109) rfl ?_);refine aT (some 20) rfl rfl Try.func109 (by kernel_rfl) rfl #[.pointer (some ⟨g,0,none⟩)] rfl ml ?_;(with_reducible refine (dN.calls g s0_0 A3 A4 t107 A6 A7 w0 _ ?side1 ?side2 A9.out).mono ?_);(case side1=>exact fO HI0);(case side2=>exact fG HB HI0);rintro e w14 ⟨rfl,hi,hb,hk⟩;refine ⟨_,rfl,?_⟩;replace HK:=aA.mk (cF.trans (tp HK) hk (.inl rfl));replace HB:=aA.mk (hb);replace HI0:=aA.mk (hi);(try clear hb);(try clear hb2);(try clear hk);(try clear hi))|((with_reducible refine aD (f:=109) rfl ?_);refine aT (some 22) rfl rfl Try.func109 (by kernel_rfl) rfl #[.pointer (some ⟨g,0,none⟩)] rfl ml ?_;(with_reducible refine (dN.calls g s0_0 A6 A7 t110 Aa Ab w0 _ ?side1 ?side2 A10.out).mono ?_);(case side1=>exact fO HI0);(case side2=>exact fG HB HI0);rintro e w15 ⟨rfl,hi,hb,hk⟩;refine ⟨_,rfl,?_⟩;replace HK:=aA.mk (cF.trans (tp HK) hk (.inl rfl));replace HB:=aA.mk (hb);replace HI0:=aA.mk (hi);(try clear hb);(try clear hb2);(try clear hk);(try clear hi))|((with_reducible refine aD (f:=109) rfl ?_);refine aT (some 24) rfl rfl Try.func109 (by kernel_rfl) rfl #[.pointer (some ⟨g,0,none⟩)] rfl ml ?_;(with_reducible refine (dN.calls g s0_0 Aa Ab t113 t114 t115 w0 _ ?side1 ?side2 A11.out).mono ?_);(case side1=>exact fO HI0);(case side2=>exact fG HB HI0);rintro e w16 ⟨rfl,hi,hb,hk⟩;refine ⟨_,rfl,?_⟩;replace HK:=aA.mk (cF.trans (tp HK) hk (.inl rfl));replace HB:=aA.mk (hb);replace HI0:=aA.mk (hi);(try clear hb);(try clear hb2);(try clear hk);(try clear hi)));go_ret;exact ⟨er,fO HI0,fG HB HI0,tp HK⟩
def dY.f (s0_0:List Int) (s0_1:Int) (s0_2:Int) (a1:Int):Option (Bool × Int × Int):=(bO.f s0_0 s0_1 s0_2 a1).bind fun bt101=>(some ((bt101.1 == 0),bt101.2.1,bt101.2.2))
theorem dY.calls (g:Nat) (s0_0:List Int) (s0_1:Int) (s0_2:Int) (a1:Int) (r1:Bool) (r2:Int) (r3:Int) (w0 w:World) (hI:cE w0 w g s0_0 s0_1 s0_2) (hB:Below w0.heap.size w0 w) (h:dY.f s0_0 s0_1 s0_2 a1=some (r1,r2,r3)) :
  Calls Try.prog 110 #[.pointer (some ⟨g,0,none⟩),.int .i64 a1] w fun e w'=>e = .returned (.bool r1)∧cE w0 w' g s0_0 r2 r3∧Below w0.heap.size w0 w'∧cF w w' g none:=by
 have HI0:=aA.mk hI;have HK:=aA.mk (cF.refl w g none);have HL:=aA.mk hB.size;clear hI;have HW0:=aA.mk hB.size;have HB:=aA.mk hB;clear hB;have H:((bO.f s0_0 s0_1 s0_2 a1).bind fun bt101=>(some ((bt101.1 == 0),bt101.2.1,bt101.2.2)))=some (r1,r2,r3):=h;clear h;replace H:=ob H;obtain ⟨⟨A0,A1,A2⟩,A30,H⟩:=H;replace H:(some ((A0 == 0),A1,A2))=some (r1,r2,r3):=H;have A3:=aA.mk A30;clear A30;simp only [Option.some.injEq,Prod.mk.injEq] at H;obtain ⟨rfl,rfl,rfl⟩:=H
 go_enter Try.func110,Try.ntmps110
 go_wp2_with (first|((with_reducible refine aD (f:=55) rfl ?_);refine aT (some 7) rfl rfl Try.func55 (by kernel_rfl) rfl #[.pointer (some ⟨g,0,none⟩),.int .i64 a1] rfl ml ?_;(with_reducible refine (bO.calls g s0_0 s0_1 s0_2 a1 A0 A1 A2 w0 _ ?side1 ?side2 A3.out).mono ?_);(case side1=>exact fO HI0);(case side2=>exact fG HB HI0);rintro e w4 ⟨rfl,hi,hb,hk⟩;refine ⟨_,rfl,?_⟩;replace HK:=aA.mk (cF.trans (tp HK) hk (.inl rfl));replace HB:=aA.mk (hb);replace HI0:=aA.mk (hi);(try clear hb);(try clear hb2);(try clear hk);(try clear hi)));go_ret;exact ⟨er,fO HI0,fG HB HI0,tp HK⟩
def cA.f (l0:List (bN)) (a1_0:Int) (a1_1:Int) (a1_2:Int) (a1_3:Int) (a1_4:Int) (a1_5:Int):Option ((List (bN)) × Int):=if l0.length < 2932031007402 then (some ((l0 ++ [(⟨a1_0,a1_1,a1_2,a1_3,a1_4,a1_5⟩:bN)]),(l0.length:Int))) else (none)
theorem cA.calls (P0_:Nat→Prop) (u9000_:Value) (l0:List (bN)) (a1_0:Int) (a1_1:Int) (a1_2:Int) (a1_3:Int) (a1_4:Int) (a1_5:Int) (r1:List (bN)) (r2:Int) (w0 w:World) (hB:Below w0.heap.size w0 w) (ho0:Kd.R eV 99 w w0.heap.size P0_ u9000_ l0) (h:cA.f l0 a1_0 a1_1 a1_2 a1_3 a1_4 a1_5=some (r1,r2)) :
  Calls Try.prog 145 #[u9000_,.agg #[.int .i64 a1_0,.int .i64 a1_1,.int .i64 a1_2,.int .i64 a1_3,.int .i64 a1_4,.int .i64 a1_5]] w fun e w'=>∃ v0_:Value,e = .returned (.tuple #[v0_,.int .i64 r2])∧Kd.R eV 99 w' w0.heap.size (fun k_=>(P0_ k_∨w.heap.size≤k_)) v0_ r1∧Below w0.heap.size w0 w'∧eC w w' (fun k_=>P0_ k_):=by
 unfold cA.f at h
 by_cases c3:l0.length < 2932031007402
 case neg=>rw [if_neg c3] at h;cases h
 rw [if_pos c3] at h;have LM:=aA.mk c3;clear c3
 obtain ⟨rfl,rfl⟩:l0 ++ [(⟨a1_0,a1_1,a1_2,a1_3,a1_4,a1_5⟩:bN)]=r1∧(l0.length:Int)=r2:=by injection h with h;injection h with h1 h2;exact ⟨h1,h2⟩
 have HO0:=aA.mk (show Kd.R eV 99 w w0.heap.size (fun k_=>(P0_ k_∨w.heap.size≤k_)) u9000_ l0 from Kd.R_mono ho0 (fun k_ hk=>(.inl hk)));have HB:=aA.mk hB;clear hB h ho0
 go_enter Try.func145,Try.ntmps145
 go_wp2_with (first|((with_reducible refine bM (N:=3) rfl ?_);refine bx (N:=3) (cs:=#[.int .i64 a1_0,.int .i64 a1_1,.int .i64 a1_2,.int .i64 a1_3,.int .i64 a1_4,.int .i64 a1_5]) (t:=99) ?_;intro gb hg w4 hbox hb;have HO1:=aA.mk (Kd.R_below (Kd.R_elderB HO0.out gb (Nat.le_of_eq hg.symm)) hb);have HK1:=aA.mk (eC.below (eC.refl w (fun k_=>P0_ k_)) hb);have HB1:=aA.mk (aE HB.out hb);have BK:=aA.mk hbox;clear hb hbox hg;obtain ⟨hz0,hz1,hz2,hz3,hz4,hz5⟩:=oV BK;have hzf:=xQ BK;obtain ⟨Ao,co,eo⟩:=Kd.R_slice HO1.out;subst eo)|((with_reducible refine cM (b := .append) (xs:=#[.tmp 6,.tmp 8]) rfl ?_);at_builtin;refine Kd.R_append eV (w0:=w0) w0.heap.size rfl (.tmp 6) (.tmp 8) 54 99 (.agg #[(.int .i64 0),(.int .i64 0),(.int .i64 0),(.int .i64 0),(.int .i64 0),(.int .i64 0)]) 48 rfl Try.underlying54 hJ rfl (by decide) (by omega) _ l0 (⟨a1_0,a1_1,a1_2,a1_3,a1_4,a1_5⟩:bN) [.int .i64 a1_0,.int .i64 a1_1,.int .i64 a1_2,.int .i64 a1_3,.int .i64 a1_4,.int .i64 a1_5] (fun k_=>(P0_ k_∨w.heap.size≤k_)∧k_≠gb) (fun _=>False) rfl rfl ?aP (fun _ hk=>hk.elim) ?aF ?aO ?aB ?aS ?aL ?_;(case aP=>exact gI _ _ _ (⟨a1_0,a1_1,a1_2,a1_3,a1_4,a1_5⟩:bN));(case aB=>exact (by repeat (first|(with_reducible first|exact HB1.out|apply bS|apply aV|apply bQ)|exact HB1.out)));(case aF=>exact (fun k_ hk=>⟨(.inr (Nat.le_trans HK1.out.1 hk)),Kd.freshB (g:=gb) BK.out k_ hk⟩));(case aO=>exact (ra HO1));(case aS=>exact (aM (by repeat (first|(with_reducible first|exact HB1.out|apply bS|apply aV|apply bQ)|exact HB1.out))));(case aL=>have:=LM.out;omega);intro v103 w6 ho hb hg hat;have HB2:=aA.mk hb;have HK2:=aA.mk (eC.of_grown (S:=(fun k_=>P0_ k_)) hg HK1.out (fun k_ e_=>(HO1.out.1 k_ e_).1));have HO2:=aA.mk ho;clear ho hb hg hat));go_ret2;exact ⟨_,by first|rfl|(simp;done),Kd.R_mono HO2.out (fun _ hk=>hk.1),HB2.out,eC.mono HK2.out (fun k hk=>by first|exact hk|(rcases hk with h|h;exact h))⟩
end Go.Proofs.Ythipjoioicmcnaa.G
