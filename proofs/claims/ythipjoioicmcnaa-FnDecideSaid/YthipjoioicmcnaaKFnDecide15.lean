-- texts of this session, merged by a program of it (wip/gen/pack.py)
import Derived.Test.YthipjoioicmcnaaKFnDecide1
import Derived.Test.YthipjoioicmcnaaKFnDecide11
import Derived.Test.YthipjoioicmcnaaKFnDecide6
import Derived.Test.YthipjoioicmcnaaKFnDecide2
import Derived.Test.YthipjoioicmcnaaKFnDecide9
import Derived.Test.YthipjoioicmcnaaKFnDecide12
set_option linter.unusedVariables false
set_option linter.unusedSimpArgs false
set_option maxHeartbeats 80000000
set_option maxRecDepth 100000
namespace Go.Proofs.Ythipjoioicmcnaa.G
open Go.RowKit Go.Proofs.YthipjoioicmcnaaW.PrintWords Go.Proofs.YthipjoioicmcnaaW.PrintLast Go.Proofs.YthipjoioicmcnaaW.PrintMore Go.Proofs.Ythipjoioicmcnaa.Sh
attribute [local go_sem] dP dR eA eB dB dC dQ dS
def gL.f (k:Nat) (l0:List Bool) (a1_0:Int) (a1_1:ByteArray):Option (Int × Bool):=(iE.f k l0 a1_0 a1_1).bind fun A6=>(if A6=true then ((cH.f k l0 a1_0 a1_1).bind fun A4=>(some (A4,true))) else (some (0,false)))
theorem gL.calls (k:Nat) (A0:Option Addr) (c0:Nat) (l0:List Bool) (a1_0:Int) (a1_1:ByteArray) (r1:Int) (r2:Bool) (w:World) (hr0:Kd.C Kd.bool w A0 l0.length l0) (hc0:l0.length≤c0) (h:gL.f k l0 a1_0 a1_1=some (r1,r2)) :
  Calls Try.prog 53 #[.slice A0 l0.length c0,.agg #[.int .i64 a1_0,.string a1_1]] w fun e w'=>e = .returned (.tuple #[.int .i64 r1,.bool r2])∧Below w.heap.size w w':=by
 have hu26:=Try.underlying26;have HR0:=aA.mk hr0;have HC0:=aA.mk hc0;clear hr0 hc0;have HB:=aA.mk (Below.refl w.heap.size w);have H:((iE.f k l0 a1_0 a1_1).bind fun A6=>(if A6=true then ((cH.f k l0 a1_0 a1_1).bind fun A4=>(some (A4,true))) else (some (0,false))))=some (r1,r2):=h;clear h;replace H:=ob H;obtain ⟨A6,A30,H⟩:=H;replace H:(if A6=true then ((cH.f k l0 a1_0 a1_1).bind fun A4=>(some (A4,true))) else (some (0,false)))=some (r1,r2):=H;have A3:=aA.mk A30;clear A30
 by_cases c4:A6=true
 ·subst c4
  have H1:((cH.f k l0 a1_0 a1_1).bind fun A4=>(some (A4,true)))=some (r1,r2):=by rw [if_pos rfl] at H;exact H
  clear H;have H:=H1;clear H1;replace H:=ob H;obtain ⟨A4,A50,H⟩:=H;replace H:(some (A4,true))=some (r1,r2):=H;have A5:=aA.mk A50;clear A50;simp only [Option.some.injEq,Prod.mk.injEq] at H;obtain ⟨rfl,rfl⟩:=H
  go_enter Try.func53,Try.ntmps53
  go_wp2_with (first|((with_reducible refine bF (N:=3) rfl ?_);refine bx (N:=3) (cs:=#[.int .i64 a1_0,.string a1_1]) (t:=26) ?_;intro A2 hg w6 hbox hb;have A1:=aA.mk (hbox);have A7:=aA.mk ((by rw [hg];exact (aG (tb HB)):w.heap.size≤A2));have A8:=aA.mk ((by rw [hg];exact (aG (tb HB)):w.heap.size≤A2));replace HB:=aA.mk (aE (tb HB) hb);clear hb hbox hg;have hcz7__:=gP A1;have hfz7__:=f_ A1)|((with_reducible refine aD (f:=107) rfl ?_);refine aI (some 8) rfl rfl Try.func107 (by kernel_rfl) rfl #[.slice A0 l0.length c0,.agg #[.int .i64 a1_0,.string a1_1]] rfl ml ?_;(with_reducible refine (iE.calls k _ _ l0 a1_0 a1_1 true _ ?side1 ?side2 A3.out).mono ?_);(case side1=>exact cw (Kd.C_below HR0.out HB.out));(case side2=>exact HC0.out);rintro e w8 ⟨rfl,hb⟩;refine ⟨_,rfl,?_⟩;replace A1:=aA.mk (aM (g:=A2) (o := .cells #[.int .i64 a1_0,.string a1_1] 26 (0,0)) (dr A1) hb);replace HB:=aA.mk (aE (tb HB) hb);(try clear hb);(try clear hb2);(try clear hk);(try clear hi);have hcz9__:=gP A1;have hfz9__:=f_ A1)|((with_reducible refine aD (f:=108) rfl ?_);refine aI (some 12) rfl rfl Try.func108 (by kernel_rfl) rfl #[.slice A0 l0.length c0,.agg #[.int .i64 a1_0,.string a1_1]] rfl ml ?_;(with_reducible refine (cH.calls k _ _ l0 a1_0 a1_1 A4 _ ?side1 ?side2 A5.out).mono ?_);(case side1=>exact cw (Kd.C_below HR0.out HB.out));(case side2=>exact HC0.out);rintro e w10 ⟨rfl,hb⟩;refine ⟨_,rfl,?_⟩;replace A1:=aA.mk (aM (g:=A2) (o := .cells #[.int .i64 a1_0,.string a1_1] 26 (0,0)) (dr A1) hb);replace HB:=aA.mk (aE (tb HB) hb);(try clear hb);(try clear hb2);(try clear hk);(try clear hi)));go_ret2;exact ⟨er,tb HB⟩
 ·replace c4:=Bool.eq_false_iff.mpr c4;subst c4
  have H1:(some (0,false))=some (r1,r2):=by rw [if_neg (show ¬ (false=true) by decide)] at H;exact H
  clear H;have H:=H1;clear H1;simp only [Option.some.injEq,Prod.mk.injEq] at H;obtain ⟨rfl,rfl⟩:=H
  go_enter Try.func53,Try.ntmps53
  go_wp2_with (first|((with_reducible refine bF (N:=3) rfl ?_);refine bx (N:=3) (cs:=#[.int .i64 a1_0,.string a1_1]) (t:=26) ?_;intro A2 hg w11 hbox hb;have A1:=aA.mk (hbox);have A7:=aA.mk ((by rw [hg];exact (aG (tb HB)):w.heap.size≤A2));have A8:=aA.mk ((by rw [hg];exact (aG (tb HB)):w.heap.size≤A2));replace HB:=aA.mk (aE (tb HB) hb);clear hb hbox hg;have hcz12__:=gP A1;have hfz12__:=f_ A1)|((with_reducible refine aD (f:=107) rfl ?_);refine aI (some 8) rfl rfl Try.func107 (by kernel_rfl) rfl #[.slice A0 l0.length c0,.agg #[.int .i64 a1_0,.string a1_1]] rfl ml ?_;(with_reducible refine (iE.calls k _ _ l0 a1_0 a1_1 false _ ?side1 ?side2 A3.out).mono ?_);(case side1=>exact cw (Kd.C_below HR0.out HB.out));(case side2=>exact HC0.out);rintro e w13 ⟨rfl,hb⟩;refine ⟨_,rfl,?_⟩;replace A1:=aA.mk (aM (g:=A2) (o := .cells #[.int .i64 a1_0,.string a1_1] 26 (0,0)) (dr A1) hb);replace HB:=aA.mk (aE (tb HB) hb);(try clear hb);(try clear hb2);(try clear hk);(try clear hi)));go_ret2;exact ⟨er,tb HB⟩
mutual
def bN.l0:Nat→Int→List Int→Int→Int→List Int→Int→Int→Option (Int × ByteArray × Int × Int)
 | 0,_,_,_,_,_,_,_=>none
 | k + 1,x1,x5,x6,x7,x1000,x1001,x1002=>(aH.f k x1).bind fun Ae=>(if x7 < Ae then ((bG.f x1000 x1001 x1002 2).bind fun bt109=>(if x6=0 then (if x5.length < 140737488355328 then (bN.l0 k x1 (x5 ++ [(wrap64 (48 + (Int.tmod (wrap64 (Int.tdiv x7 2)) 2))) % 256]) x6 (wrap64 (x7 + 1)) x1000 bt109.2.1 bt109.2.2) else (none)) else (if x6=1 then ((dF.f x1000 bt109.2.1 bt109.2.2 2).bind fun bt115=>(if bt115.1=true then (if x5.length < 140737488355328 then (bN.l0 k x1 (x5 ++ [48]) x6 (wrap64 (x7 + 1)) x1000 bt115.2.1 bt115.2.2) else (none)) else (if x5.length < 140737488355328 then (bN.l0 k x1 (x5 ++ [(wrap64 (48 + bt109.1)) % 256]) x6 (wrap64 (x7 + 1)) x1000 bt115.2.1 bt115.2.2) else (none)))) else (if x5.length < 140737488355328 then (bN.l0 k x1 (x5 ++ [(wrap64 (48 + bt109.1)) % 256]) x6 (wrap64 (x7 + 1)) x1000 bt109.2.1 bt109.2.2) else (none))))) else ((dF.f x1000 x1001 x1002 8).bind fun bt127=>(if bt127.1=true then (bN.l1 k x1 x5 0 x1000 bt127.2.1 bt127.2.2) else (some (x1,strOfNums x5,bt127.2.1,bt127.2.2)))))
def bN.l1:Nat→Int→List Int→Int→List Int→Int→Int→Option (Int × ByteArray × Int × Int)
 | 0,_,_,_,_,_,_=>none
 | k + 1,x1,x5,x9,x1000,x1001,x1002=>if x9 < (x5.length:Int) then (if 0≤x9 then (bN.l1 k x1 (x5.set (x9:Int).toNat 49) (wrap64 (x9 + 1)) x1000 x1001 x1002) else (none)) else (some (x1,strOfNums x5,x1001,x1002))
end
def bN.f (k:Nat) (s0_0:List Int) (s0_1:Int) (s0_2:Int) (a1:Int):Option (Int × ByteArray × Int × Int):=(bG.f s0_0 s0_1 s0_2 4).bind fun bt105=>(bN.l0 k a1 (([]:List Int)) bt105.1 0 s0_0 bt105.2.1 bt105.2.2)
theorem bN.calls (k:Nat) (g:Nat) (s0_0:List Int) (s0_1:Int) (s0_2:Int) (a1:Int) (r1:Int) (r2:ByteArray) (r3:Int) (r4:Int) (w0 w:World) (hI:bK w0 w g s0_0 s0_1 s0_2) (hB:Below w0.heap.size w0 w) (h:bN.f k s0_0 s0_1 s0_2 a1=some (r1,r2,r3,r4)) :
  Calls Try.prog 57 #[.pointer (some ⟨g,0,none⟩),.int .i64 a1] w fun e w'=>e = .returned (.agg #[.int .i64 r1,.string r2])∧bK w0 w' g s0_0 r3 r4∧Below w0.heap.size w0 w'∧bI w w' g none:=by
 have hu26:=Try.underlying26;have HI0:=aA.mk hI;have HK:=aA.mk (bI.refl w g none);have HL:=aA.mk hB.size;clear hI;have HW0:=aA.mk hB.size;have HB:=aA.mk hB;clear hB;have H:((bG.f s0_0 s0_1 s0_2 4).bind fun bt105=>(bN.l0 k a1 (([]:List Int)) bt105.1 0 s0_0 bt105.2.1 bt105.2.2))=some (r1,r2,r3,r4):=h;clear h;obtain ⟨y102,hy102⟩:∃ y_:List Int,y_=(([]:List Int)):=⟨_,rfl⟩;replace H:((bG.f s0_0 s0_1 s0_2 4).bind fun bt105=>(bN.l0 k a1 y102 bt105.1 0 s0_0 bt105.2.1 bt105.2.2))=some (r1,r2,r3,r4):=gQ hy102 H;have Ny102:=aA.mk hy102;clear hy102;replace H:=ob H;obtain ⟨⟨A9,An,Ao⟩,A30,H⟩:=H;replace H:(bN.l0 k a1 y102 A9 0 s0_0 An Ao)=some (r1,r2,r3,r4):=H;have A3:=aA.mk A30;clear A30;have H':=aA.mk H;clear H
 go_enter Try.func57,Try.ntmps57
 go_wp2_with (first|((with_reducible refine bF (N:=4) rfl ?_);refine bx (N:=4) (cs:=#[.int .i64 0,.string (⟨#[]⟩:ByteArray)]) (t:=26) ?_;intro A5 hg w4 hbox hb;replace HB:=aA.mk (aE (dX HB HI0) hb);have A0:=aA.mk (hbox);have GW101:=aA.mk ((by rw [hg];exact (eQ (w:=w) (g:=g) (row:=none) (tp HK)):w.heap.size≤A5));have GE101:=aA.mk ((Nat.le_trans HW0.out (by rw [hg];exact (eQ (w:=w) (g:=g) (row:=none) (tp HK)):w.heap.size≤A5):w0.heap.size≤A5));replace HK:=aA.mk (bI.trans (tp HK) (bI.of_below hb g none) (.inl rfl));have Al:=aA.mk ((by rw [hg];exact Nat.ne_of_lt (bK.lt (show bK w0 _ g s0_0 s0_1 s0_2 from by exact dJ HI0)):g≠A5));have A6:=aA.mk ((by rw [hg];exact Nat.ne_of_gt (bK.lt (show bK w0 _ g s0_0 s0_1 s0_2 from by exact dJ HI0)):A5≠g));replace HI0:=aA.mk (bK.below (dJ HI0) hb);clear hb hbox hg)|((with_reducible refine bF (N:=10) rfl ?_);refine Kd.R_lit (Kd.int .u8) _ 5 ?hg (N:=10) ?hd (xs:=([]:List Int)) (inner:=[]) (ok:=fun _=>True) (okp:=fun _=>True) ?hr ?hp (fun _ hk=>hk) trivial (Below.refl _ _) (Nat.le_refl _) (by simp) ?_;(case hd=>rfl);(case hg=>rfl);(case hr=>first|(go_simp;done)|(go_simp;rfl));(case hp=>exact (cQ.none _ _));intro v103 w5 ho6 hb hg_ hnew_;clear hg_ hnew_;(first|rw [← Ny102.out] at ho6|(simp only [Int.reduceToNat] at ho6;rw [← Ny102.out] at ho6));have Am:=aA.mk (Kd.R_lower ho6 (eQ (w:=w) (g:=g) (row:=none) (tp HK)));replace A0:=aA.mk (aM (g:=A5) (o := .cells #[.int .i64 0,.string (⟨#[]⟩:ByteArray)] 26 (0,0)) (dr A0) hb);replace HK:=aA.mk (bI.trans (tp HK) (bI.of_below hb g none) (.inl rfl));replace HB:=aA.mk (aE (dX HB HI0) hb);replace HI0:=aA.mk (bK.below (dJ HI0) hb);clear hb ho6)|((with_reducible refine aD (f:=55) rfl ?_);refine aI (some 12) rfl rfl Try.func55 (by kernel_rfl) rfl #[.pointer (some ⟨g,0,none⟩),.int .i64 4] rfl ml ?_;(with_reducible refine (bG.calls g s0_0 s0_1 s0_2 4 A9 An Ao w0 _ ?side1 ?side2 A3.out).mono ?_);(case side1=>exact dJ HI0);(case side2=>exact dX HB HI0);rintro e w7 ⟨rfl,hi,hb,hk⟩;refine ⟨_,rfl,?_⟩;replace A0:=aA.mk (bI.blk hk (g':=A5) (o := .cells #[.int .i64 0,.string (⟨#[]⟩:ByteArray)] 26 (0,0)) (dr A0) A6.out (by simp));replace Am:=aA.mk (Kd.R_mono (Kd.R_keep (bK.apart (show bK w0 _ g s0_0 s0_1 s0_2 from by exact dJ HI0) (ra Am) (by decide)) hk (fun _ h=>h.2)) (fun _ h=>h.1));replace HK:=aA.mk (bI.trans (tp HK) hk (.inl rfl));replace HB:=aA.mk (hb);replace HI0:=aA.mk (hi);(try clear hb);(try clear hb2);(try clear hk);(try clear hi)))
 go_loopg [5,7] k (fun kq v5 v7 w'=>∃ (A7:List Int) (Aa:Int) (A2:Int) (A4:Int),v7 = .int .i64 Aa∧aA (bN.l0 kq a1 A7 A9 Aa s0_0 A2 A4=some (r1,r2,r3,r4))∧aA (kq≤k)∧aA (Kd.R (Kd.int .u8) 5 w' w.heap.size (fun _=>True) v5 A7)∧aA (w'.heap[A5]? = some (.cells #[.int .i64 0,.string (⟨#[]⟩:ByteArray)] 26 (0,0)))∧aA (bK w0 w' g s0_0 A2 A4)∧aA (bI w w' g none)∧aA (Below w0.heap.size w0 w'))
 case atStart=>exact ⟨(y102),(0),(An),(Ao),(by first|rfl|(simp;done)|(simp [*];done)),H',⟨Nat.le_refl _⟩,⟨ra Am⟩,⟨dr A0⟩,⟨by exact dJ HI0⟩,⟨by exact tp HK⟩,⟨by exact dX HB HI0⟩⟩
 case round =>
  clear H';obtain ⟨A7,Aa,A2,A4,rfl,HA,HK1,A1,A0,HI0,HK,HB⟩:=hrel
  cases gk with
  | zero=>exact absurd HA.out (by simp [bN.l0])
  | succ k1 =>
   have H:=HA.out;clear HA;simp only [bN.l0] at H;replace H:=ob H;obtain ⟨Ae,A80,H⟩:=H
   try dsimp only at H
   have A8:=aA.mk A80;clear A80
   by_cases c9:Aa < Ae
   ·rw [if_pos c9] at H;have c9b0:decide (Aa < Ae)=true:=decide_eq_true c9;clear c9;replace H:=ob H;obtain ⟨⟨Af,Ac,Ad⟩,A100,H⟩:=H
    try dsimp only at H
    have A10:=aA.mk A100;clear A100
    by_cases c11:A9=0
    ·rw [if_pos c11] at H;have c11b0:(A9 == 0)=true:=beq_iff_eq.mpr c11;have c11b1:(A9 != 0)=false:=bne_eq_false_iff_eq.mpr c11;clear c11
     by_cases c12:A7.length < 140737488355328
     ·rw [if_pos c12] at H;have LMc12:=aA.mk c12;clear c12;obtain ⟨y112,hy112⟩:∃ y_:List Int,y_=(A7 ++ [(wrap64 (48 + (Int.tmod (wrap64 (Int.tdiv Aa 2)) 2))) % 256]):=⟨_,rfl⟩;replace H:(bN.l0 k1 a1 y112 A9 (wrap64 (Aa + 1)) s0_0 Ac Ad)=some (r1,r2,r3,r4):=gQ hy112 H;have Ny112:=aA.mk hy112;clear hy112;have H':=aA.mk H;clear H;go_wp2_with (first|((with_reducible refine aD (f:=70) rfl ?_);refine aI (some 15) rfl rfl Try.func70 (by kernel_rfl) rfl #[.int .i64 a1] rfl ml ?_;(with_reducible refine (aH.calls k1 a1 Ae _ A8.out).mono ?_);rintro e w' ⟨rfl,⟨nd,rfl⟩⟩;refine ⟨_,rfl,?_⟩)|((with_reducible refine aD (f:=55) rfl ?_);refine aI (some 20) rfl rfl Try.func55 (by kernel_rfl) rfl #[.pointer (some ⟨g,0,none⟩),.int .i64 2] rfl ml ?_;(with_reducible refine (bG.calls g s0_0 A2 A4 2 Af Ac Ad w0 _ ?side1 ?side2 A10.out).mono ?_);(case side1=>exact dJ HI0);(case side2=>exact dX HB HI0);rintro e w13 ⟨rfl,hi,hb,hk⟩;refine ⟨_,rfl,?_⟩;replace A1:=aA.mk (Kd.R_mono (Kd.R_keep (bK.apart (show bK w0 _ g s0_0 A2 A4 from by exact dJ HI0) (ra A1) (by decide)) hk (fun _ h=>h.2)) (fun _ h=>h.1));replace A0:=aA.mk (bI.blk hk (g':=A5) (o := .cells #[.int .i64 0,.string (⟨#[]⟩:ByteArray)] 26 (0,0)) (dr A0) A6.out (by simp));replace HK:=aA.mk (bI.trans (tp HK) hk (.inl rfl));replace HB:=aA.mk (hb);replace HI0:=aA.mk (hi);(try clear hb);(try clear hb2);(try clear hk);(try clear hi))|((with_reducible refine cD (b := .append) (xs:=#[.tmp 31,.tmp 35]) rfl ?_);at_builtin;refine Kd.R_append (Kd.int .u8) w.heap.size rfl (.tmp 31) (.tmp 35) 22 5 (.int .u8 0) 1 rfl Try.underlying22 pS rfl (by decide) (by omega) u5 A7 ((wrap64 (48 + (Int.tmod (wrap64 (Int.tdiv Aa 2)) 2))) % 256) [.int .u8 ((wrap64 (48 + (Int.tmod (wrap64 (Int.tdiv Aa 2)) 2))) % 256)] (fun _=>True) (fun _=>False) rfl rfl ?aP (fun _ hk=>hk.elim) ?aF ?aO (Below.refl _ _) ?aS ?aL ?_;(case aP=>exact rfl);(case aF=>exact (fun _ _=>trivial));(case aO=>exact (ra A1));(case aS=>exact (eQ (w:=w) (g:=g) (row:=none) (tp HK)));(case aL=>have:=LMc12.out;omega);intro v113 w14 ho hb hg hat;rw [← Ny112.out] at ho;replace A0:=aA.mk (eW (g:=A5) (o := .cells #[.int .i64 0,.string (⟨#[]⟩:ByteArray)] 26 (0,0)) (dr A0) hg (Kd.R_ne A1.out A0.out (by decide)));replace HB:=aA.mk (iK (dX HB HI0) HL.out hb);replace HI0:=aA.mk (bK.grown (dJ HI0) hg (bK.own_ne HI0.out A1.out (by decide)));replace HK:=aA.mk (bI.trans (tp HK) (bI.of_grown hg g) (Kd.R_base2 A1.out));have Ap:=aA.mk (ho);clear A1;clear ho hb hg hat));go_roundg k1
      case measure=>have:=HK1.out;omega
      case rel=>exact ⟨(y112),(wrap64 (Aa + 1)),(Ac),(Ad),(by first|rfl|(simp;done)|(simp [*];done)),H',⟨by have:=HK1.out;omega⟩,⟨ra Ap⟩,⟨dr A0⟩,⟨by exact dJ HI0⟩,⟨by exact tp HK⟩,⟨by exact dX HB HI0⟩⟩
     ·rw [if_neg c12] at H;exact absurd H (by simp)
    ·rw [if_neg c11] at H;have c11b0:(A9 == 0)=false:=beq_eq_false_iff_ne.mpr c11;have c11b1:(A9 != 0)=true:=bne_iff_ne.mpr c11
     by_cases c15:A9=1
     ·rw [if_pos c15] at H;have c15b0:(A9 == 1)=true:=beq_iff_eq.mpr c15;have c15b1:(A9 != 1)=false:=bne_eq_false_iff_eq.mpr c15;clear c15;replace H:=ob H;obtain ⟨⟨t115,Aj,Ak⟩,A160,H⟩:=H
      try dsimp only at H
      have A16:=aA.mk A160;clear A160
      by_cases c17:t115=true
      ·subst c17
       have H1:(if A7.length < 140737488355328 then (bN.l0 k1 a1 (A7 ++ [48]) A9 (wrap64 (Aa + 1)) s0_0 Aj Ak) else (none))=some (r1,r2,r3,r4):=by rw [if_pos rfl] at H;exact H
       clear H;have H:=H1;clear H1
       by_cases c18:A7.length < 140737488355328
       ·rw [if_pos c18] at H;have LMc18:=aA.mk c18;clear c18;obtain ⟨y118,hy118⟩:∃ y_:List Int,y_=(A7 ++ [48]):=⟨_,rfl⟩;replace H:(bN.l0 k1 a1 y118 A9 (wrap64 (Aa + 1)) s0_0 Aj Ak)=some (r1,r2,r3,r4):=gQ hy118 H;have Ny118:=aA.mk hy118;clear hy118;have H':=aA.mk H;clear H;go_wp2_with (first|((with_reducible refine aD (f:=70) rfl ?_);refine aI (some 15) rfl rfl Try.func70 (by kernel_rfl) rfl #[.int .i64 a1] rfl ml ?_;(with_reducible refine (aH.calls k1 a1 Ae _ A8.out).mono ?_);rintro e w' ⟨rfl,⟨nd,rfl⟩⟩;refine ⟨_,rfl,?_⟩)|((with_reducible refine aD (f:=55) rfl ?_);refine aI (some 20) rfl rfl Try.func55 (by kernel_rfl) rfl #[.pointer (some ⟨g,0,none⟩),.int .i64 2] rfl ml ?_;(with_reducible refine (bG.calls g s0_0 A2 A4 2 Af Ac Ad w0 _ ?side1 ?side2 A10.out).mono ?_);(case side1=>exact dJ HI0);(case side2=>exact dX HB HI0);rintro e w19 ⟨rfl,hi,hb,hk⟩;refine ⟨_,rfl,?_⟩;replace A1:=aA.mk (Kd.R_mono (Kd.R_keep (bK.apart (show bK w0 _ g s0_0 A2 A4 from by exact dJ HI0) (ra A1) (by decide)) hk (fun _ h=>h.2)) (fun _ h=>h.1));replace A0:=aA.mk (bI.blk hk (g':=A5) (o := .cells #[.int .i64 0,.string (⟨#[]⟩:ByteArray)] 26 (0,0)) (dr A0) A6.out (by simp));replace HK:=aA.mk (bI.trans (tp HK) hk (.inl rfl));replace HB:=aA.mk (hb);replace HI0:=aA.mk (hi);(try clear hb);(try clear hb2);(try clear hk);(try clear hi))|((with_reducible refine aD (f:=110) rfl ?_);refine aI (some 30) rfl rfl Try.func110 (by kernel_rfl) rfl #[.pointer (some ⟨g,0,none⟩),.int .i64 2] rfl ml ?_;(with_reducible refine (dF.calls g s0_0 Ac Ad 2 true Aj Ak w0 _ ?side1 ?side2 A16.out).mono ?_);(case side1=>exact dJ HI0);(case side2=>exact dX HB HI0);rintro e w20 ⟨rfl,hi,hb,hk⟩;refine ⟨_,rfl,?_⟩;replace A1:=aA.mk (Kd.R_mono (Kd.R_keep (bK.apart (show bK w0 _ g s0_0 Ac Ad from by exact dJ HI0) (ra A1) (by decide)) hk (fun _ h=>h.2)) (fun _ h=>h.1));replace A0:=aA.mk (bI.blk hk (g':=A5) (o := .cells #[.int .i64 0,.string (⟨#[]⟩:ByteArray)] 26 (0,0)) (dr A0) A6.out (by simp));replace HK:=aA.mk (bI.trans (tp HK) hk (.inl rfl));replace HB:=aA.mk (hb);replace HI0:=aA.mk (hi);(try clear hb);(try clear hb2);(try clear hk);(try clear hi))|((with_reducible refine cD (b := .append) (xs:=#[.tmp 31,.tmp 35]) rfl ?_);at_builtin;refine Kd.R_append (Kd.int .u8) w.heap.size rfl (.tmp 31) (.tmp 35) 22 5 (.int .u8 0) 1 rfl Try.underlying22 pS rfl (by decide) (by omega) u5 A7 48 [.int .u8 48] (fun _=>True) (fun _=>False) rfl rfl ?aP (fun _ hk=>hk.elim) ?aF ?aO (Below.refl _ _) ?aS ?aL ?_;(case aP=>exact rfl);(case aF=>exact (fun _ _=>trivial));(case aO=>exact (ra A1));(case aS=>exact (eQ (w:=w) (g:=g) (row:=none) (tp HK)));(case aL=>have:=LMc18.out;omega);intro v119 w21 ho hb hg hat;rw [← Ny118.out] at ho;replace A0:=aA.mk (eW (g:=A5) (o := .cells #[.int .i64 0,.string (⟨#[]⟩:ByteArray)] 26 (0,0)) (dr A0) hg (Kd.R_ne A1.out A0.out (by decide)));replace HB:=aA.mk (iK (dX HB HI0) HL.out hb);replace HI0:=aA.mk (bK.grown (dJ HI0) hg (bK.own_ne HI0.out A1.out (by decide)));replace HK:=aA.mk (bI.trans (tp HK) (bI.of_grown hg g) (Kd.R_base2 A1.out));have Aq:=aA.mk (ho);clear A1;clear ho hb hg hat));go_roundg k1
        case measure=>have:=HK1.out;omega
        case rel=>exact ⟨(y118),(wrap64 (Aa + 1)),(Aj),(Ak),(by first|rfl|(simp;done)|(simp [*];done)),H',⟨by have:=HK1.out;omega⟩,⟨ra Aq⟩,⟨dr A0⟩,⟨by exact dJ HI0⟩,⟨by exact tp HK⟩,⟨by exact dX HB HI0⟩⟩
       ·rw [if_neg c18] at H;exact absurd H (by simp)
      ·replace c17:=Bool.eq_false_iff.mpr c17;subst c17
       have H1:(if A7.length < 140737488355328 then (bN.l0 k1 a1 (A7 ++ [(wrap64 (48 + Af)) % 256]) A9 (wrap64 (Aa + 1)) s0_0 Aj Ak) else (none))=some (r1,r2,r3,r4):=by rw [if_neg (show ¬ (false=true) by decide)] at H;exact H
       clear H;have H:=H1;clear H1
       by_cases c22:A7.length < 140737488355328
       ·rw [if_pos c22] at H;have LMc22:=aA.mk c22;clear c22;obtain ⟨y121,hy121⟩:∃ y_:List Int,y_=(A7 ++ [(wrap64 (48 + Af)) % 256]):=⟨_,rfl⟩;replace H:(bN.l0 k1 a1 y121 A9 (wrap64 (Aa + 1)) s0_0 Aj Ak)=some (r1,r2,r3,r4):=gQ hy121 H;have Ny121:=aA.mk hy121;clear hy121;have H':=aA.mk H;clear H;go_wp2_with (first|((with_reducible refine aD (f:=70) rfl ?_);refine aI (some 15) rfl rfl Try.func70 (by kernel_rfl) rfl #[.int .i64 a1] rfl ml ?_;(with_reducible refine (aH.calls k1 a1 Ae _ A8.out).mono ?_);rintro e w' ⟨rfl,⟨nd,rfl⟩⟩;refine ⟨_,rfl,?_⟩)|((with_reducible refine aD (f:=55) rfl ?_);refine aI (some 20) rfl rfl Try.func55 (by kernel_rfl) rfl #[.pointer (some ⟨g,0,none⟩),.int .i64 2] rfl ml ?_;(with_reducible refine (bG.calls g s0_0 A2 A4 2 Af Ac Ad w0 _ ?side1 ?side2 A10.out).mono ?_);(case side1=>exact dJ HI0);(case side2=>exact dX HB HI0);rintro e w23 ⟨rfl,hi,hb,hk⟩;refine ⟨_,rfl,?_⟩;replace A1:=aA.mk (Kd.R_mono (Kd.R_keep (bK.apart (show bK w0 _ g s0_0 A2 A4 from by exact dJ HI0) (ra A1) (by decide)) hk (fun _ h=>h.2)) (fun _ h=>h.1));replace A0:=aA.mk (bI.blk hk (g':=A5) (o := .cells #[.int .i64 0,.string (⟨#[]⟩:ByteArray)] 26 (0,0)) (dr A0) A6.out (by simp));replace HK:=aA.mk (bI.trans (tp HK) hk (.inl rfl));replace HB:=aA.mk (hb);replace HI0:=aA.mk (hi);(try clear hb);(try clear hb2);(try clear hk);(try clear hi))|((with_reducible refine aD (f:=110) rfl ?_);refine aI (some 30) rfl rfl Try.func110 (by kernel_rfl) rfl #[.pointer (some ⟨g,0,none⟩),.int .i64 2] rfl ml ?_;(with_reducible refine (dF.calls g s0_0 Ac Ad 2 false Aj Ak w0 _ ?side1 ?side2 A16.out).mono ?_);(case side1=>exact dJ HI0);(case side2=>exact dX HB HI0);rintro e w24 ⟨rfl,hi,hb,hk⟩;refine ⟨_,rfl,?_⟩;replace A1:=aA.mk (Kd.R_mono (Kd.R_keep (bK.apart (show bK w0 _ g s0_0 Ac Ad from by exact dJ HI0) (ra A1) (by decide)) hk (fun _ h=>h.2)) (fun _ h=>h.1));replace A0:=aA.mk (bI.blk hk (g':=A5) (o := .cells #[.int .i64 0,.string (⟨#[]⟩:ByteArray)] 26 (0,0)) (dr A0) A6.out (by simp));replace HK:=aA.mk (bI.trans (tp HK) hk (.inl rfl));replace HB:=aA.mk (hb);replace HI0:=aA.mk (hi);(try clear hb);(try clear hb2);(try clear hk);(try clear hi))|((with_reducible refine cD (b := .append) (xs:=#[.tmp 31,.tmp 35]) rfl ?_);at_builtin;refine Kd.R_append (Kd.int .u8) w.heap.size rfl (.tmp 31) (.tmp 35) 22 5 (.int .u8 0) 1 rfl Try.underlying22 pS rfl (by decide) (by omega) u5 A7 ((wrap64 (48 + Af)) % 256) [.int .u8 ((wrap64 (48 + Af)) % 256)] (fun _=>True) (fun _=>False) rfl rfl ?aP (fun _ hk=>hk.elim) ?aF ?aO (Below.refl _ _) ?aS ?aL ?_;(case aP=>exact rfl);(case aF=>exact (fun _ _=>trivial));(case aO=>exact (ra A1));(case aS=>exact (eQ (w:=w) (g:=g) (row:=none) (tp HK)));(case aL=>have:=LMc22.out;omega);intro v122 w25 ho hb hg hat;rw [← Ny121.out] at ho;replace A0:=aA.mk (eW (g:=A5) (o := .cells #[.int .i64 0,.string (⟨#[]⟩:ByteArray)] 26 (0,0)) (dr A0) hg (Kd.R_ne A1.out A0.out (by decide)));replace HB:=aA.mk (iK (dX HB HI0) HL.out hb);replace HI0:=aA.mk (bK.grown (dJ HI0) hg (bK.own_ne HI0.out A1.out (by decide)));replace HK:=aA.mk (bI.trans (tp HK) (bI.of_grown hg g) (Kd.R_base2 A1.out));have Ar:=aA.mk (ho);clear A1;clear ho hb hg hat));go_roundg k1
        case measure=>have:=HK1.out;omega
        case rel=>exact ⟨(y121),(wrap64 (Aa + 1)),(Aj),(Ak),(by first|rfl|(simp;done)|(simp [*];done)),H',⟨by have:=HK1.out;omega⟩,⟨ra Ar⟩,⟨dr A0⟩,⟨by exact dJ HI0⟩,⟨by exact tp HK⟩,⟨by exact dX HB HI0⟩⟩
       ·rw [if_neg c22] at H;exact absurd H (by simp)
     ·rw [if_neg c15] at H;have c15b0:(A9 == 1)=false:=beq_eq_false_iff_ne.mpr c15;have c15b1:(A9 != 1)=true:=bne_iff_ne.mpr c15
      by_cases c26:A7.length < 140737488355328
      ·rw [if_pos c26] at H;have LMc26:=aA.mk c26;clear c26;obtain ⟨y124,hy124⟩:∃ y_:List Int,y_=(A7 ++ [(wrap64 (48 + Af)) % 256]):=⟨_,rfl⟩;replace H:(bN.l0 k1 a1 y124 A9 (wrap64 (Aa + 1)) s0_0 Ac Ad)=some (r1,r2,r3,r4):=gQ hy124 H;have Ny124:=aA.mk hy124;clear hy124;have H':=aA.mk H;clear H;go_wp2_with (first|((with_reducible refine aD (f:=70) rfl ?_);refine aI (some 15) rfl rfl Try.func70 (by kernel_rfl) rfl #[.int .i64 a1] rfl ml ?_;(with_reducible refine (aH.calls k1 a1 Ae _ A8.out).mono ?_);rintro e w' ⟨rfl,⟨nd,rfl⟩⟩;refine ⟨_,rfl,?_⟩)|((with_reducible refine aD (f:=55) rfl ?_);refine aI (some 20) rfl rfl Try.func55 (by kernel_rfl) rfl #[.pointer (some ⟨g,0,none⟩),.int .i64 2] rfl ml ?_;(with_reducible refine (bG.calls g s0_0 A2 A4 2 Af Ac Ad w0 _ ?side1 ?side2 A10.out).mono ?_);(case side1=>exact dJ HI0);(case side2=>exact dX HB HI0);rintro e w27 ⟨rfl,hi,hb,hk⟩;refine ⟨_,rfl,?_⟩;replace A1:=aA.mk (Kd.R_mono (Kd.R_keep (bK.apart (show bK w0 _ g s0_0 A2 A4 from by exact dJ HI0) (ra A1) (by decide)) hk (fun _ h=>h.2)) (fun _ h=>h.1));replace A0:=aA.mk (bI.blk hk (g':=A5) (o := .cells #[.int .i64 0,.string (⟨#[]⟩:ByteArray)] 26 (0,0)) (dr A0) A6.out (by simp));replace HK:=aA.mk (bI.trans (tp HK) hk (.inl rfl));replace HB:=aA.mk (hb);replace HI0:=aA.mk (hi);(try clear hb);(try clear hb2);(try clear hk);(try clear hi))|((with_reducible refine cD (b := .append) (xs:=#[.tmp 31,.tmp 35]) rfl ?_);at_builtin;refine Kd.R_append (Kd.int .u8) w.heap.size rfl (.tmp 31) (.tmp 35) 22 5 (.int .u8 0) 1 rfl Try.underlying22 pS rfl (by decide) (by omega) u5 A7 ((wrap64 (48 + Af)) % 256) [.int .u8 ((wrap64 (48 + Af)) % 256)] (fun _=>True) (fun _=>False) rfl rfl ?aP (fun _ hk=>hk.elim) ?aF ?aO (Below.refl _ _) ?aS ?aL ?_;(case aP=>exact rfl);(case aF=>exact (fun _ _=>trivial));(case aO=>exact (ra A1));(case aS=>exact (eQ (w:=w) (g:=g) (row:=none) (tp HK)));(case aL=>have:=LMc26.out;omega);intro v125 w28 ho hb hg hat;rw [← Ny124.out] at ho;replace A0:=aA.mk (eW (g:=A5) (o := .cells #[.int .i64 0,.string (⟨#[]⟩:ByteArray)] 26 (0,0)) (dr A0) hg (Kd.R_ne A1.out A0.out (by decide)));replace HB:=aA.mk (iK (dX HB HI0) HL.out hb);replace HI0:=aA.mk (bK.grown (dJ HI0) hg (bK.own_ne HI0.out A1.out (by decide)));replace HK:=aA.mk (bI.trans (tp HK) (bI.of_grown hg g) (Kd.R_base2 A1.out));have As:=aA.mk (ho);clear A1;clear ho hb hg hat));go_roundg k1
       case measure=>have:=HK1.out;omega
       case rel=>exact ⟨(y124),(wrap64 (Aa + 1)),(Ac),(Ad),(by first|rfl|(simp;done)|(simp [*];done)),H',⟨by have:=HK1.out;omega⟩,⟨ra As⟩,⟨dr A0⟩,⟨by exact dJ HI0⟩,⟨by exact tp HK⟩,⟨by exact dX HB HI0⟩⟩
      ·rw [if_neg c26] at H;exact absurd H (by simp)
   ·rw [if_neg c9] at H;have c9b0:decide (Aa < Ae)=false:=decide_eq_false c9;clear c9;replace H:=ob H;obtain ⟨⟨At,Ah,Ai⟩,A290,H⟩:=H;replace H:(if At=true then (bN.l1 k1 a1 A7 0 s0_0 Ah Ai) else (some (a1,strOfNums A7,Ah,Ai)))=some (r1,r2,r3,r4):=H;have A29:=aA.mk A290;clear A290
    by_cases c30:At=true
    ·subst c30
     have H1:(bN.l1 k1 a1 A7 0 s0_0 Ah Ai)=some (r1,r2,r3,r4):=by rw [if_pos rfl] at H;exact H
     clear H;have H:=H1;clear H1;have H':=aA.mk H;clear H;go_wp2_with (first|((with_reducible refine aD (f:=70) rfl ?_);refine aI (some 15) rfl rfl Try.func70 (by kernel_rfl) rfl #[.int .i64 a1] rfl ml ?_;(with_reducible refine (aH.calls k1 a1 Ae _ A8.out).mono ?_);rintro e w' ⟨rfl,⟨nd,rfl⟩⟩;refine ⟨_,rfl,?_⟩)|((with_reducible refine aD (f:=110) rfl ?_);refine aI (some 38) rfl rfl Try.func110 (by kernel_rfl) rfl #[.pointer (some ⟨g,0,none⟩),.int .i64 8] rfl ml ?_;(with_reducible refine (dF.calls g s0_0 A2 A4 8 true Ah Ai w0 _ ?side1 ?side2 A29.out).mono ?_);(case side1=>exact dJ HI0);(case side2=>exact dX HB HI0);rintro e w31 ⟨rfl,hi,hb,hk⟩;refine ⟨_,rfl,?_⟩;replace A1:=aA.mk (Kd.R_mono (Kd.R_keep (bK.apart (show bK w0 _ g s0_0 A2 A4 from by exact dJ HI0) (ra A1) (by decide)) hk (fun _ h=>h.2)) (fun _ h=>h.1));replace A0:=aA.mk (bI.blk hk (g':=A5) (o := .cells #[.int .i64 0,.string (⟨#[]⟩:ByteArray)] 26 (0,0)) (dr A0) A6.out (by simp));replace HK:=aA.mk (bI.trans (tp HK) hk (.inl rfl));replace HB:=aA.mk (hb);replace HI0:=aA.mk (hi);(try clear hb);(try clear hb2);(try clear hk);(try clear hi)))
     go_loopg [9] k1 (fun kq v9 w'=>∃ (Ag:List Int) (Ab:Int),v9 = .int .i64 Ab∧aA (bN.l1 kq a1 Ag Ab s0_0 Ah Ai=some (r1,r2,r3,r4))∧aA (kq≤k1)∧aA (Kd.R (Kd.int .u8) 5 w' w.heap.size (fun _=>True) u5 Ag)∧aA (w'.heap[A5]? = some (.cells #[.int .i64 0,.string (⟨#[]⟩:ByteArray)] 26 (0,0)))∧aA (bK w0 w' g s0_0 Ah Ai)∧aA (bI w w' g none)∧aA (Below w0.heap.size w0 w'))
     case atStart=>exact ⟨(A7),(0),(by first|rfl|(simp;done)|(simp [*];done)),H',⟨Nat.le_refl _⟩,⟨ra A1⟩,⟨dr A0⟩,⟨by exact dJ HI0⟩,⟨by exact tp HK⟩,⟨by exact dX HB HI0⟩⟩
     case round =>
      clear H';obtain ⟨Ag,Ab,rfl,HA,HK2,A1,A0,HI0,HK,HB⟩:=hrel
      cases gk with
      | zero=>exact absurd HA.out (by simp [bN.l1])
      | succ k2 =>
       have H:=HA.out;clear HA;simp only [bN.l1] at H
       by_cases c32:Ab < (Ag.length:Int)
       ·rw [if_pos c32] at H;have c32b0:decide (Ab < (Ag.length:Int))=true:=decide_eq_true c32;clear c32
        by_cases c33:0≤Ab
        ·rw [if_pos c33] at H;have c33b0:decide (0≤Ab)=true:=decide_eq_true c33;clear c33;obtain ⟨y130,hy130⟩:∃ y_:List Int,y_=(Ag.set (Ab:Int).toNat 49):=⟨_,rfl⟩;replace H:(bN.l1 k2 a1 y130 (wrap64 (Ab + 1)) s0_0 Ah Ai)=some (r1,r2,r3,r4):=gQ hy130 H;have Ny130:=aA.mk hy130;clear hy130;have H':=aA.mk H;clear H;obtain ⟨Ao35,co35,eo35⟩:=Kd.R_slice A1.out;subst eo35;have p34:0≤(Ab:Int):=od;have q34:(Ab:Int) < ((Ag.length:Int):Int):=od;obtain ⟨go34,co34,eo34,Au,gl34,cl34,HG34⟩:=Kd.R_form A1.out (by omega);(first|cases eo34|(injection eo34 with ea_ en_ ec_;(first|subst ea_|(injection ea_ with ea_;subst ea_));subst ec_;clear en_));have GB34:=aA.mk Au;have GG34:=aA.mk HG34;clear Au gl34 HG34;obtain ⟨hx34_0,hf34_0⟩:=Kd.R_celln 0 A1.out (Ab:Int) p34 q34;replace p34:=eq_true p34;replace q34:=eq_true q34;have HP36:=Kd.R_putg A1.out (Ab:Int) 49;go_wp2_with (first|((with_reducible refine mD (t:=5) (p:=47) rfl ?_);refine lJ (t:=5) (p:=47) (v:=?vo_w37) (w1:=(wr.setCell ⟨go34,(Ab:Int).toNat,none⟩ (.int .u8 49))) ?hg ?ho ?hn ?hr ?_;(case ho=>rfl);(case hg=>rfl);(case hn=>rfl);(case hr=>first|(go_simp;done)|(go_simp;rfl));intro w37 hw;have hg:wr.grownBy w37 (some go34):=(by rw [hw];exact HP36.2);have hp_:Kd.R (Kd.int .u8) 5 w37 w.heap.size (fun _=>True) (.slice (some ⟨go34,0,none⟩) Ag.length co35) y130:=(by rw [hw,Ny130.out];exact HP36.1);clear HP36;replace A0:=aA.mk (eW (g:=A5) (o := .cells #[.int .i64 0,.string (⟨#[]⟩:ByteArray)] 26 (0,0)) (dr A0) hg (Kd.R_ne A1.out A0.out (by decide)));replace HI0:=aA.mk (bK.grown (dJ HI0) hg (bK.own_ne HI0.out A1.out (by decide)));replace HB:=aA.mk ((by rw [hw];exact cM (HB.out) (Nat.le_trans HL.out GB34.out):Below w0.heap.size w0 w37));replace HK:=aA.mk (bI.trans (tp HK) (bI.of_grown hg g) (Kd.R_base2 A1.out));replace A1:=aA.mk (hp_);clear hg hw hp_));go_roundg k2
         case measure=>have:=HK1.out;have:=HK2.out;omega
         case rel=>exact ⟨(y130),(wrap64 (Ab + 1)),(by first|rfl|(simp;done)|(simp [*];done)),H',⟨by have:=HK1.out;have:=HK2.out;omega⟩,⟨ra A1⟩,⟨dr A0⟩,⟨by exact dJ HI0⟩,⟨by exact tp HK⟩,⟨by exact dX HB HI0⟩⟩
        ·rw [if_neg c33] at H;exact absurd H (by simp)
       ·rw [if_neg c32] at H;have c32b0:decide (Ab < (Ag.length:Int))=false:=decide_eq_false c32;clear c32;simp only [Option.some.injEq,Prod.mk.injEq] at H;obtain ⟨rfl,rfl,rfl,rfl⟩:=H;obtain ⟨Ao38,co38,eo38⟩:=Kd.R_slice A1.out;subst eo38;have hcv39:=kX (P:=Try.prog) Try.underlying22 Try.underlying5 Try.underlying9 (Kd.own_of_R A1.out);have hnb40:=A6.out;have hnc40:=Al.out;have hcz41__:=gP A0;have hfz41__:=f_ A0;go_wp2;refine bodyPost_ret (results_cell_row rfl _ _ A5 26 #[.int .i64 a1,.string (strOfNums Ag)] (0,0) _ rfl (by (with_reducible repeat (first|refine aW ?_ _|refine aU ?_|refine aX ?_ _));refine bU (cs:=#[.int .i64 a1,.string (⟨#[]⟩:ByteArray)]) ?_ 1 _ rfl;(with_reducible repeat (first|refine aW ?_ _|refine aU ?_|refine aX ?_ _));refine bU (cs:=#[.int .i64 0,.string (⟨#[]⟩:ByteArray)]) ?_ 0 _ rfl;(with_reducible repeat (first|refine aW ?_ _|refine aU ?_|refine aX ?_ _));exact A0.out) Try.underlying26 rfl (by kernel_rfl)) rfl ?_;exact ⟨er,dJ HI0,dX HB HI0,tp HK⟩
    ·replace c30:=Bool.eq_false_iff.mpr c30;subst c30
     have H1:(some (a1,strOfNums A7,Ah,Ai))=some (r1,r2,r3,r4):=by rw [if_neg (show ¬ (false=true) by decide)] at H;exact H
     clear H;have H:=H1;clear H1;simp only [Option.some.injEq,Prod.mk.injEq] at H;obtain ⟨rfl,rfl,rfl,rfl⟩:=H;go_wp2_with (first|((with_reducible refine aD (f:=70) rfl ?_);refine aI (some 15) rfl rfl Try.func70 (by kernel_rfl) rfl #[.int .i64 a1] rfl ml ?_;(with_reducible refine (aH.calls k1 a1 Ae _ A8.out).mono ?_);rintro e w' ⟨rfl,⟨nd,rfl⟩⟩;refine ⟨_,rfl,?_⟩;(try (rw [fS wr];generalize hq_:World.drewN wr _=wr;have n0_:aA (Kd.R (Kd.int .u8) 5 wr w.heap.size (fun _=>True) u5 A7):=⟨by rw [← hq_];exact (ra A1)⟩;have n1_:aA (wr.heap[A5]? = some (.cells #[.int .i64 0,.string (⟨#[]⟩:ByteArray)] 26 (0,0))):=⟨by rw [← hq_];exact (dr A0)⟩;have n2_:aA (bK w0 wr g s0_0 A2 A4):=⟨by rw [← hq_];exact (dJ HI0)⟩;have n3_:aA (bI w wr g none):=⟨by rw [← hq_];exact (tp HK)⟩;have n4_:aA (Below w0.heap.size w0 wr):=⟨by rw [← hq_];exact (dX HB HI0)⟩;clear A1 A0 HI0 HK HB hq_;have A1:=n0_;have A0:=n1_;have HI0:=n2_;have HK:=n3_;have HB:=n4_;clear n0_ n1_ n2_ n3_ n4_)))|((with_reducible refine aD (f:=110) rfl ?_);refine aI (some 38) rfl rfl Try.func110 (by kernel_rfl) rfl #[.pointer (some ⟨g,0,none⟩),.int .i64 8] rfl ml ?_;(with_reducible refine (dF.calls g s0_0 A2 A4 8 false Ah Ai w0 _ ?side1 ?side2 A29.out).mono ?_);(case side1=>exact dJ HI0);(case side2=>exact dX HB HI0);rintro e w42 ⟨rfl,hi,hb,hk⟩;refine ⟨_,rfl,?_⟩;replace A1:=aA.mk (Kd.R_mono (Kd.R_keep (bK.apart (show bK w0 _ g s0_0 A2 A4 from by exact dJ HI0) (ra A1) (by decide)) hk (fun _ h=>h.2)) (fun _ h=>h.1));replace A0:=aA.mk (bI.blk hk (g':=A5) (o := .cells #[.int .i64 0,.string (⟨#[]⟩:ByteArray)] 26 (0,0)) (dr A0) A6.out (by simp));replace HK:=aA.mk (bI.trans (tp HK) hk (.inl rfl));replace HB:=aA.mk (hb);replace HI0:=aA.mk (hi);(try clear hb);(try clear hb2);(try clear hk);(try clear hi);have hcv43:=kX (P:=Try.prog) Try.underlying22 Try.underlying5 Try.underlying9 (Kd.own_of_R A1.out);have hnb44:=A6.out;have hnc44:=Al.out;have hcz45__:=gP A0;have hfz45__:=f_ A0));refine bodyPost_ret (results_cell_row rfl _ _ A5 26 #[.int .i64 a1,.string (strOfNums A7)] (0,0) _ rfl (by (with_reducible repeat (first|refine aW ?_ _|refine aU ?_|refine aX ?_ _));refine bU (cs:=#[.int .i64 a1,.string (⟨#[]⟩:ByteArray)]) ?_ 1 _ rfl;(with_reducible repeat (first|refine aW ?_ _|refine aU ?_|refine aX ?_ _));refine bU (cs:=#[.int .i64 0,.string (⟨#[]⟩:ByteArray)]) ?_ 0 _ rfl;(with_reducible repeat (first|refine aW ?_ _|refine aU ?_|refine aX ?_ _));exact A0.out) Try.underlying26 rfl (by kernel_rfl)) rfl ?_;exact ⟨er,dJ HI0,dX HB HI0,tp HK⟩
def eD.l0:Nat→Int→List Bool→Int→List Int→Int→Int→Option (List Bool × Int × Int)
 | 0,_,_,_,_,_,_=>none
 | k + 1,x1,x5,x6,x1000,x1001,x1002=>if x6 < x1 then ((dF.f x1000 x1001 x1002 2).bind fun bt104=>(if x5.length < 140737488355328 then (eD.l0 k x1 (x5 ++ [bt104.1]) (wrap64 (x6 + 1)) x1000 bt104.2.1 bt104.2.2) else (none))) else (some (x5,x1001,x1002))
def eD.f (k:Nat) (s0_0:List Int) (s0_1:Int) (s0_2:Int) (a1:Int):Option (List Bool × Int × Int):=eD.l0 k a1 (([]:List Bool)) 0 s0_0 s0_1 s0_2
theorem eD.calls (k:Nat) (g:Nat) (s0_0:List Int) (s0_1:Int) (s0_2:Int) (a1:Int) (r1:List Bool) (r2:Int) (r3:Int) (w0 w:World) (hI:bK w0 w g s0_0 s0_1 s0_2) (hB:Below w0.heap.size w0 w) (h:eD.f k s0_0 s0_1 s0_2 a1=some (r1,r2,r3)) :
  Calls Try.prog 56 #[.pointer (some ⟨g,0,none⟩),.int .i64 a1] w fun e w'=>∃ v0_:Value,e = .returned (v0_)∧Kd.R Kd.bool 4 w' w.heap.size (fun _=>True) v0_ r1∧bK w0 w' g s0_0 r2 r3∧Below w0.heap.size w0 w'∧bI w w' g none:=by
 have HI0:=aA.mk hI;have HK:=aA.mk (bI.refl w g none);have HL:=aA.mk hB.size;clear hI;have HW0:=aA.mk hB.size;have HB:=aA.mk hB;clear hB;have H:(eD.l0 k a1 (([]:List Bool)) 0 s0_0 s0_1 s0_2)=some (r1,r2,r3):=h;clear h;obtain ⟨y101,hy101⟩:∃ y_:List Bool,y_=(([]:List Bool)):=⟨_,rfl⟩;replace H:(eD.l0 k a1 y101 0 s0_0 s0_1 s0_2)=some (r1,r2,r3):=gQ hy101 H;have Ny101:=aA.mk hy101;clear hy101;have H':=aA.mk H;clear H
 go_enter Try.func56,Try.ntmps56
 go_wp2_with (first|((with_reducible refine bF (N:=7) rfl ?_);refine Kd.R_lit Kd.bool _ 4 ?hg (N:=7) ?hd (xs:=([]:List Bool)) (inner:=[]) (ok:=fun _=>True) (okp:=fun _=>True) ?hr ?hp (fun _ hk=>hk) trivial (Below.refl _ _) (Nat.le_refl _) (by simp) ?_;(case hd=>rfl);(case hg=>rfl);(case hr=>first|(go_simp;done)|(go_simp;rfl));(case hp=>exact (cQ.none _ _));intro v102 w3 ho4 hb hg_ hnew_;clear hg_ hnew_;(first|rw [← Ny101.out] at ho4|(simp only [Int.reduceToNat] at ho4;rw [← Ny101.out] at ho4));have A9:=aA.mk (Kd.R_lower ho4 (eQ (w:=w) (g:=g) (row:=none) (tp HK)));replace HK:=aA.mk (bI.trans (tp HK) (bI.of_below hb g none) (.inl rfl));replace HB:=aA.mk (aE (dX HB HI0) hb);replace HI0:=aA.mk (bK.below (dJ HI0) hb);clear hb ho4))
 go_loopg [5,6] k (fun kq v5 v6 w'=>∃ (A4:List Bool) (A2:Int) (A0:Int) (A1:Int),v6 = .int .i64 A2∧aA (eD.l0 kq a1 A4 A2 s0_0 A0 A1=some (r1,r2,r3))∧aA (kq≤k)∧aA (Kd.R Kd.bool 4 w' w.heap.size (fun _=>True) v5 A4)∧aA (bK w0 w' g s0_0 A0 A1)∧aA (bI w w' g none)∧aA (Below w0.heap.size w0 w'))
 case atStart=>exact ⟨(y101),(0),(s0_1),(s0_2),(by first|rfl|(simp;done)|(simp [*];done)),H',⟨Nat.le_refl _⟩,⟨ra A9⟩,⟨by exact dJ HI0⟩,⟨by exact tp HK⟩,⟨by exact dX HB HI0⟩⟩
 case round =>
  clear H';obtain ⟨A4,A2,A0,A1,rfl,HA,HK1,A3,HI0,HK,HB⟩:=hrel
  cases gk with
  | zero=>exact absurd HA.out (by simp [eD.l0])
  | succ k1 =>
   have H:=HA.out;clear HA;simp only [eD.l0] at H
   by_cases c5:A2 < a1
   ·rw [if_pos c5] at H;have c5b0:decide (A2 < a1)=true:=decide_eq_true c5;clear c5;replace H:=ob H;obtain ⟨⟨A5,A7,A8⟩,A60,H⟩:=H
    try dsimp only at H
    have A6:=aA.mk A60;clear A60
    by_cases c7:A4.length < 140737488355328
    ·rw [if_pos c7] at H;have LMc7:=aA.mk c7;clear c7;obtain ⟨y107,hy107⟩:∃ y_:List Bool,y_=(A4 ++ [A5]):=⟨_,rfl⟩;replace H:(eD.l0 k1 a1 y107 (wrap64 (A2 + 1)) s0_0 A7 A8)=some (r1,r2,r3):=gQ hy107 H;have Ny107:=aA.mk hy107;clear hy107;have H':=aA.mk H;clear H;go_wp2_with (first|((with_reducible refine aD (f:=110) rfl ?_);refine aI (some 15) rfl rfl Try.func110 (by kernel_rfl) rfl #[.pointer (some ⟨g,0,none⟩),.int .i64 2] rfl ml ?_;(with_reducible refine (dF.calls g s0_0 A0 A1 2 A5 A7 A8 w0 _ ?side1 ?side2 A6.out).mono ?_);(case side1=>exact dJ HI0);(case side2=>exact dX HB HI0);rintro e w8 ⟨rfl,hi,hb,hk⟩;refine ⟨_,rfl,?_⟩;replace A3:=aA.mk (Kd.R_mono (Kd.R_keep (bK.apart (show bK w0 _ g s0_0 A0 A1 from by exact dJ HI0) (ra A3) (by decide)) hk (fun _ h=>h.2)) (fun _ h=>h.1));replace HK:=aA.mk (bI.trans (tp HK) hk (.inl rfl));replace HB:=aA.mk (hb);replace HI0:=aA.mk (hi);(try clear hb);(try clear hb2);(try clear hk);(try clear hi))|((with_reducible refine cD (b := .append) (xs:=#[.tmp 13,.tmp 16]) rfl ?_);at_builtin;refine Kd.R_append Kd.bool w.heap.size rfl (.tmp 13) (.tmp 16) 24 4 (.bool false) 1 rfl Try.underlying24 iY rfl (by decide) (by omega) u5 A4 A5 [.bool A5] (fun _=>True) (fun _=>False) rfl rfl ?aP (fun _ hk=>hk.elim) ?aF ?aO (Below.refl _ _) ?aS ?aL ?_;(case aP=>exact rfl);(case aF=>exact (fun _ _=>trivial));(case aO=>exact (ra A3));(case aS=>exact (eQ (w:=w) (g:=g) (row:=none) (tp HK)));(case aL=>have:=LMc7.out;omega);intro v108 w9 ho hb hg hat;rw [← Ny107.out] at ho;replace HB:=aA.mk (iK (dX HB HI0) HL.out hb);replace HI0:=aA.mk (bK.grown (dJ HI0) hg (bK.own_ne HI0.out A3.out (by decide)));replace HK:=aA.mk (bI.trans (tp HK) (bI.of_grown hg g) (Kd.R_base2 A3.out));have Aa:=aA.mk (ho);clear A3;clear ho hb hg hat));go_roundg k1
     case measure=>have:=HK1.out;omega
     case rel=>exact ⟨(y107),(wrap64 (A2 + 1)),(A7),(A8),(by first|rfl|(simp;done)|(simp [*];done)),H',⟨by have:=HK1.out;omega⟩,⟨ra Aa⟩,⟨by exact dJ HI0⟩,⟨by exact tp HK⟩,⟨by exact dX HB HI0⟩⟩
    ·rw [if_neg c7] at H;exact absurd H (by simp)
   ·rw [if_neg c5] at H;have c5b0:decide (A2 < a1)=false:=decide_eq_false c5;clear c5;simp only [Option.some.injEq,Prod.mk.injEq] at H;obtain ⟨rfl,rfl,rfl⟩:=H;go_wp2;go_ret;exact ⟨_,er,ra A3,dJ HI0,dX HB HI0,tp HK⟩
def cE.l0:Nat→List (bL)→Int→Option (Bool)
 | 0,_,_=>none
 | k + 1,x0,x3=>if x3 < (x0.length:Int) then ((fR.f k x0 x3).bind fun A4=>(if A4=true then (cE.l0 k x0 (wrap64 (x3 + 1))) else (some false))) else (some true)
def cE.f (k:Nat) (l0:List (bL)):Option (Bool):=(bB.f (l0.length:Int) 1 80).bind fun A3=>(if A3=true then (cE.l0 k l0 0) else (some false))
theorem cE.calls (k:Nat) (A0:Option Addr) (c0:Nat) (l0:List (bL)) (r:Bool) (w:World) (hr0:Kd.C fL w A0 l0.length l0) (hc0:l0.length≤c0) (h:cE.f k l0=some r) :
  Calls Try.prog 104 #[.slice A0 l0.length c0] w fun e w'=>e = .returned (.bool r)∧Below w.heap.size w w':=by
 have HR0:=aA.mk hr0;have HC0:=aA.mk hc0;clear hr0 hc0;have HB:=aA.mk (Below.refl w.heap.size w);have H:((bB.f (l0.length:Int) 1 80).bind fun A3=>(if A3=true then (cE.l0 k l0 0) else (some false)))=some r:=h;clear h;replace H:=ob H;obtain ⟨A3,A20,H⟩:=H;replace H:(if A3=true then (cE.l0 k l0 0) else (some false))=some r:=H;have A2:=aA.mk A20;clear A20
 by_cases c3:A3=true
 ·subst c3
  have H1:(cE.l0 k l0 0)=some r:=by rw [if_pos rfl] at H;exact H
  clear H;have H:=H1;clear H1;have H':=aA.mk H;clear H
  go_enter Try.func104,Try.ntmps104
  go_wp2_with (first|((with_reducible refine aD (f:=69) rfl ?_);refine aI (some 6) rfl rfl Try.func69 (by kernel_rfl) rfl #[.int .i64 (l0.length:Int),.int .i64 1,.int .i64 80] rfl ml ?_;(with_reducible refine (bB.calls (l0.length:Int) 1 80 true _ A2.out).mono ?_);rintro e w' ⟨rfl,⟨nd,rfl⟩⟩;refine ⟨_,rfl,?_⟩))
  go_loopg [3] k (fun kq v3 w'=>∃ (A1:Int),v3 = .int .i64 A1∧aA (cE.l0 kq l0 A1=some r)∧aA (kq≤k)∧aA (Below w.heap.size w w'))
  case atStart=>exact ⟨(0),(by first|rfl|(simp;done)|(simp [*];done)),H',⟨Nat.le_refl _⟩,⟨by exact tb HB⟩⟩
  case round =>
   clear H';obtain ⟨A1,rfl,HA,HK1,HB⟩:=hrel
   cases gk with
   | zero=>exact absurd HA.out (by simp [cE.l0])
   | succ k1 =>
    have H:=HA.out;clear HA;simp only [cE.l0] at H
    by_cases c4:A1 < (l0.length:Int)
    ·rw [if_pos c4] at H;have c4b0:decide (A1 < (l0.length:Int))=true:=decide_eq_true c4;clear c4;replace H:=ob H;obtain ⟨A4,A50,H⟩:=H;replace H:(if A4=true then (cE.l0 k1 l0 (wrap64 (A1 + 1))) else (some false))=some r:=H;have A5:=aA.mk A50;clear A50
     by_cases c6:A4=true
     ·subst c6
      have H1:(cE.l0 k1 l0 (wrap64 (A1 + 1)))=some r:=by rw [if_pos rfl] at H;exact H
      clear H;have H:=H1;clear H1;have H':=aA.mk H;clear H;go_wp2_with (first|((with_reducible refine aD (f:=130) rfl ?_);refine aI (some 16) rfl rfl Try.func130 (by kernel_rfl) rfl #[.slice A0 l0.length c0,.int .i64 A1] rfl ml ?_;(with_reducible refine (fR.calls k1 _ _ l0 A1 true _ ?side1 ?side2 A5.out).mono ?_);(case side1=>exact cw (Kd.C_below HR0.out HB.out));(case side2=>exact HC0.out);rintro e w7 ⟨rfl,hb⟩;refine ⟨_,rfl,?_⟩;replace HB:=aA.mk (aE (tb HB) hb);(try clear hb);(try clear hb2);(try clear hk);(try clear hi)));go_roundg k1
      case measure=>have:=HK1.out;omega
      case rel=>exact ⟨(wrap64 (A1 + 1)),(by first|rfl|(simp;done)|(simp [*];done)),H',⟨by have:=HK1.out;omega⟩,⟨by exact tb HB⟩⟩
     ·replace c6:=Bool.eq_false_iff.mpr c6;subst c6
      have H1:(some false)=some r:=by rw [if_neg (show ¬ (false=true) by decide)] at H;exact H
      clear H;have H:=H1;clear H1;obtain rfl:=os H;go_wp2_with (first|((with_reducible refine aD (f:=130) rfl ?_);refine aI (some 16) rfl rfl Try.func130 (by kernel_rfl) rfl #[.slice A0 l0.length c0,.int .i64 A1] rfl ml ?_;(with_reducible refine (fR.calls k1 _ _ l0 A1 false _ ?side1 ?side2 A5.out).mono ?_);(case side1=>exact cw (Kd.C_below HR0.out HB.out));(case side2=>exact HC0.out);rintro e w8 ⟨rfl,hb⟩;refine ⟨_,rfl,?_⟩;replace HB:=aA.mk (aE (tb HB) hb);(try clear hb);(try clear hb2);(try clear hk);(try clear hi)));go_ret;exact ⟨er,tb HB⟩
    ·rw [if_neg c4] at H;have c4b0:decide (A1 < (l0.length:Int))=false:=decide_eq_false c4;clear c4;obtain rfl:=os H;go_wp2;go_ret;exact ⟨er,tb HB⟩
 ·replace c3:=Bool.eq_false_iff.mpr c3;subst c3
  have H1:(some false)=some r:=by rw [if_neg (show ¬ (false=true) by decide)] at H;exact H
  clear H;have H:=H1;clear H1;obtain rfl:=os H
  go_enter Try.func104,Try.ntmps104
  go_wp2_with (first|((with_reducible refine aD (f:=69) rfl ?_);refine aI (some 6) rfl rfl Try.func69 (by kernel_rfl) rfl #[.int .i64 (l0.length:Int),.int .i64 1,.int .i64 80] rfl ml ?_;(with_reducible refine (bB.calls (l0.length:Int) 1 80 false _ A2.out).mono ?_);rintro e w' ⟨rfl,⟨nd,rfl⟩⟩;refine ⟨_,rfl,?_⟩));go_ret;exact ⟨er,tb HB⟩
end Go.Proofs.Ythipjoioicmcnaa.G
namespace Go.Proofs.Ythipjoioicmcnaa.Pure
open Go.RowKit Go.Proofs.Ythipjoioicmcnaa.G Go.Proofs.YthipjoioicmcnaaW.PrintWords Go.Proofs.YthipjoioicmcnaaW.PrintLast Go.Proofs.YthipjoioicmcnaaW.PrintMore
theorem rE (z j:Nat) (hj:j≤60):shr .i64 (z:Int) (j:Int)=((z / 2 ^ j:Nat):Int):=by
 unfold shr
 rw [Int.toNat_natCast,show min j IntKind.i64.bits=j from by simp [IntKind.bits];omega]
 norm_cast
theorem rD (z j:Nat) (hj:j≤60) (h:z * 2 ^ j < 4611686018427387904):shl .i64 (z:Int) (j:Int)=((z * 2 ^ j:Nat):Int):=by
 unfold shl
 rw [Int.toNat_natCast,show min j IntKind.i64.bits=j from by simp [IntKind.bits];omega,yL,← Int.natCast_mul,jI _ (by omega) (by omega)]
end Go.Proofs.Ythipjoioicmcnaa.Pure
namespace Go.Proofs.Ythipjoioicmcnaa.G
open Go.RowKit Go.Proofs.YthipjoioicmcnaaW.PrintWords Go.Proofs.YthipjoioicmcnaaW.PrintLast Go.Proofs.YthipjoioicmcnaaW.PrintMore Go.Proofs.Ythipjoioicmcnaa.Sh
attribute [local go_sem] dP dR eA eB dB dC dQ dS
def kB.f (a0:Int) (a1:Int) (a2:Int):Option (Int):=(cR.f a0 a1 a2).bind fun A1=>(if A1=true then ((dO.f a0 (wrap64 (a1 + a2))).bind fun A0=>(some A0)) else (some 0))
theorem kB.calls (a0:Int) (a1:Int) (a2:Int) (r:Int) (w:World) (h:kB.f a0 a1 a2=some r) :
  Calls Try.prog 166 #[.int .i64 a0,.int .i64 a1,.int .i64 a2] w fun e w'=>e = .returned (.int .i64 r)∧bW w w':=by
 have H:((cR.f a0 a1 a2).bind fun A1=>(if A1=true then ((dO.f a0 (wrap64 (a1 + a2))).bind fun A0=>(some A0)) else (some 0)))=some r:=h;clear h;replace H:=ob H;obtain ⟨A1,A40,H⟩:=H;replace H:(if A1=true then ((dO.f a0 (wrap64 (a1 + a2))).bind fun A0=>(some A0)) else (some 0))=some r:=H;have A4:=aA.mk A40;clear A40
 by_cases c5:A1=true
 ·subst c5
  have H1:((dO.f a0 (wrap64 (a1 + a2))).bind fun A0=>(some A0))=some r:=by rw [if_pos rfl] at H;exact H
  clear H;have H:=H1;clear H1;replace H:=ob H;obtain ⟨A0,A60,H⟩:=H;replace H:(some A0)=some r:=H;have A6:=aA.mk A60;clear A60;obtain rfl:=os H
  go_enter Try.func166,Try.ntmps166
  go_wp2_with (first|((with_reducible refine aD (f:=173) rfl ?_);refine aI (some 10) rfl rfl Try.func173 (by kernel_rfl) rfl #[.int .i64 a0,.int .i64 a1,.int .i64 a2] rfl ml ?_;(with_reducible refine (cR.calls a0 a1 a2 true _ A4.out).mono ?_);rintro e w' ⟨rfl,⟨nd,rfl⟩⟩;refine ⟨_,rfl,?_⟩)|((with_reducible refine aD (f:=64) rfl ?_);refine aI (some 16) rfl rfl Try.func64 (by kernel_rfl) rfl #[.int .i64 a0,.int .i64 (wrap64 (a1 + a2))] rfl ml ?_;(with_reducible refine (dO.calls a0 (wrap64 (a1 + a2)) A0 _ A6.out).mono ?_);rintro e w' ⟨rfl,⟨nd,rfl⟩⟩;refine ⟨_,rfl,?_⟩));go_ret;exact ⟨e1,dn⟩
 ·replace c5:=Bool.eq_false_iff.mpr c5;subst c5
  have H1:(some 0)=some r:=by rw [if_neg (show ¬ (false=true) by decide)] at H;exact H
  clear H;have H:=H1;clear H1;obtain rfl:=os H
  go_enter Try.func166,Try.ntmps166
  go_wp2_with (first|((with_reducible refine aD (f:=173) rfl ?_);refine aI (some 10) rfl rfl Try.func173 (by kernel_rfl) rfl #[.int .i64 a0,.int .i64 a1,.int .i64 a2] rfl ml ?_;(with_reducible refine (cR.calls a0 a1 a2 false _ A4.out).mono ?_);rintro e w' ⟨rfl,⟨nd,rfl⟩⟩;refine ⟨_,rfl,?_⟩));go_ret;exact ⟨e1,dn⟩
def gR.f (a0:Int) (a1:Int) (a2:Int):Option (Int):=(cR.f a0 a1 a2).bind fun A2=>(if A2=true then ((cZ.f (decide (a1 < a2))).bind fun A0=>(some A0)) else ((cZ.f false).bind fun A1=>(some A1)))
theorem gR.calls (a0:Int) (a1:Int) (a2:Int) (r:Int) (w:World) (h:gR.f a0 a1 a2=some r) :
  Calls Try.prog 142 #[.int .i64 a0,.int .i64 a1,.int .i64 a2] w fun e w'=>e = .returned (.int .i64 r)∧bW w w':=by
 have H:((cR.f a0 a1 a2).bind fun A2=>(if A2=true then ((cZ.f (decide (a1 < a2))).bind fun A0=>(some A0)) else ((cZ.f false).bind fun A1=>(some A1))))=some r:=h;clear h;replace H:=ob H;obtain ⟨A2,A40,H⟩:=H
 try dsimp only at H
 have A4:=aA.mk A40;clear A40
 by_cases c5:A2=true
 ·subst c5
  have H1:((cZ.f (decide (a1 < a2))).bind fun A0=>(some A0))=some r:=by rw [if_pos rfl] at H;exact H
  clear H;have H:=H1;clear H1;replace H:=ob H;obtain ⟨A0,A60,H⟩:=H;replace H:(some A0)=some r:=H;have A6:=aA.mk A60;clear A60;obtain rfl:=os H
  go_enter Try.func142,Try.ntmps142
  go_wp2_with (first|((with_reducible refine aD (f:=173) rfl ?_);refine aI (some 10) rfl rfl Try.func173 (by kernel_rfl) rfl #[.int .i64 a0,.int .i64 a1,.int .i64 a2] rfl ml ?_;(with_reducible refine (cR.calls a0 a1 a2 true _ A4.out).mono ?_);rintro e w' ⟨rfl,⟨nd,rfl⟩⟩;refine ⟨_,rfl,?_⟩)|((with_reducible refine aD (f:=111) rfl ?_);refine aI (some 16) rfl rfl Try.func111 (by kernel_rfl) rfl #[.bool (decide (a1 < a2))] rfl ml ?_;(with_reducible refine (cZ.calls (decide (a1 < a2)) A0 _ A6.out).mono ?_);rintro e w' ⟨rfl,⟨nd,rfl⟩⟩;refine ⟨_,rfl,?_⟩));go_ret;exact ⟨e1,dn⟩
 ·replace c5:=Bool.eq_false_iff.mpr c5;subst c5
  have H1:((cZ.f false).bind fun A1=>(some A1))=some r:=by rw [if_neg (show ¬ (false=true) by decide)] at H;exact H
  clear H;have H:=H1;clear H1;replace H:=ob H;obtain ⟨A1,A70,H⟩:=H;replace H:(some A1)=some r:=H;have A7:=aA.mk A70;clear A70;obtain rfl:=os H
  go_enter Try.func142,Try.ntmps142
  go_wp2_with (first|((with_reducible refine aD (f:=173) rfl ?_);refine aI (some 10) rfl rfl Try.func173 (by kernel_rfl) rfl #[.int .i64 a0,.int .i64 a1,.int .i64 a2] rfl ml ?_;(with_reducible refine (cR.calls a0 a1 a2 false _ A4.out).mono ?_);rintro e w' ⟨rfl,⟨nd,rfl⟩⟩;refine ⟨_,rfl,?_⟩)|((with_reducible refine aD (f:=111) rfl ?_);refine aI (some 16) rfl rfl Try.func111 (by kernel_rfl) rfl #[.bool false] rfl ml ?_;(with_reducible refine (cZ.calls false A1 _ A7.out).mono ?_);rintro e w' ⟨rfl,⟨nd,rfl⟩⟩;refine ⟨_,rfl,?_⟩));go_ret;exact ⟨e1,dn⟩
def eX.f (a0:Int) (a1:Int) (a2:Int):Option (Int):=(cR.f a0 a1 a2).bind fun A5=>(if A5=true then ((eV.f a0 a1).bind fun A2=>((eV.f a0 a2).bind fun A0=>((cZ.f (decide (A2 < A0))).bind fun A1=>(some A1)))) else ((cZ.f false).bind fun A3=>(some A3)))
theorem eX.calls (a0:Int) (a1:Int) (a2:Int) (r:Int) (w:World) (h:eX.f a0 a1 a2=some r) :
  Calls Try.prog 143 #[.int .i64 a0,.int .i64 a1,.int .i64 a2] w fun e w'=>e = .returned (.int .i64 r)∧bW w w':=by
 have H:((cR.f a0 a1 a2).bind fun A5=>(if A5=true then ((eV.f a0 a1).bind fun A2=>((eV.f a0 a2).bind fun A0=>((cZ.f (decide (A2 < A0))).bind fun A1=>(some A1)))) else ((cZ.f false).bind fun A3=>(some A3))))=some r:=h;clear h;replace H:=ob H;obtain ⟨A5,A40,H⟩:=H
 try dsimp only at H
 have A4:=aA.mk A40;clear A40
 by_cases c5:A5=true
 ·subst c5
  have H1:((eV.f a0 a1).bind fun A2=>((eV.f a0 a2).bind fun A0=>((cZ.f (decide (A2 < A0))).bind fun A1=>(some A1))))=some r:=by rw [if_pos rfl] at H;exact H
  clear H;have H:=H1;clear H1;replace H:=ob H;obtain ⟨A2,A60,H⟩:=H;replace H:((eV.f a0 a2).bind fun A0=>((cZ.f (decide (A2 < A0))).bind fun A1=>(some A1)))=some r:=H;have A6:=aA.mk A60;clear A60;replace H:=ob H;obtain ⟨A0,A70,H⟩:=H;replace H:((cZ.f (decide (A2 < A0))).bind fun A1=>(some A1))=some r:=H;have A7:=aA.mk A70;clear A70;replace H:=ob H;obtain ⟨A1,A80,H⟩:=H;replace H:(some A1)=some r:=H;have A8:=aA.mk A80;clear A80;obtain rfl:=os H
  go_enter Try.func143,Try.ntmps143
  go_wp2_with (first|((with_reducible refine aD (f:=173) rfl ?_);refine aI (some 10) rfl rfl Try.func173 (by kernel_rfl) rfl #[.int .i64 a0,.int .i64 a1,.int .i64 a2] rfl ml ?_;(with_reducible refine (cR.calls a0 a1 a2 true _ A4.out).mono ?_);rintro e w' ⟨rfl,⟨nd,rfl⟩⟩;refine ⟨_,rfl,?_⟩)|(go_at_call 174;(try simp only [aJ,aN]);(with_reducible refine (eV.calls a0 a1 A2 _ A6.out).mono ?_);rintro e w' ⟨rfl,⟨nd,rfl⟩⟩)|(go_at_call 174;(try simp only [aJ,aN]);(with_reducible refine (eV.calls a0 a2 A0 _ A7.out).mono ?_);rintro e w' ⟨rfl,⟨nd,rfl⟩⟩)|((with_reducible refine aD (f:=111) rfl ?_);refine aI (some 20) rfl rfl Try.func111 (by kernel_rfl) rfl #[.bool (decide (A2 < A0))] rfl ml ?_;(with_reducible refine (cZ.calls (decide (A2 < A0)) A1 _ A8.out).mono ?_);rintro e w' ⟨rfl,⟨nd,rfl⟩⟩;refine ⟨_,rfl,?_⟩));go_ret;exact ⟨e1,dn⟩
 ·replace c5:=Bool.eq_false_iff.mpr c5;subst c5
  have H1:((cZ.f false).bind fun A3=>(some A3))=some r:=by rw [if_neg (show ¬ (false=true) by decide)] at H;exact H
  clear H;have H:=H1;clear H1;replace H:=ob H;obtain ⟨A3,A90,H⟩:=H;replace H:(some A3)=some r:=H;have A9:=aA.mk A90;clear A90;obtain rfl:=os H
  go_enter Try.func143,Try.ntmps143
  go_wp2_with (first|((with_reducible refine aD (f:=173) rfl ?_);refine aI (some 10) rfl rfl Try.func173 (by kernel_rfl) rfl #[.int .i64 a0,.int .i64 a1,.int .i64 a2] rfl ml ?_;(with_reducible refine (cR.calls a0 a1 a2 false _ A4.out).mono ?_);rintro e w' ⟨rfl,⟨nd,rfl⟩⟩;refine ⟨_,rfl,?_⟩)|((with_reducible refine aD (f:=111) rfl ?_);refine aI (some 20) rfl rfl Try.func111 (by kernel_rfl) rfl #[.bool false] rfl ml ?_;(with_reducible refine (cZ.calls false A3 _ A9.out).mono ?_);rintro e w' ⟨rfl,⟨nd,rfl⟩⟩;refine ⟨_,rfl,?_⟩));go_ret;exact ⟨e1,dn⟩
def kC.f (a0:Int) (a1:Int) (a2:Int):Option (Int):=(cR.f a0 a1 a2).bind fun A0=>(if A0=true then (if a2=0 then (if 0≤(IntKind.u64.wrap (a0)) then (some (wrap64 ((shl .i64 1 (IntKind.u64.wrap (a0))) - 1))) else (none)) else (some (wrap64 (Int.tdiv a1 a2)))) else (some 0))
theorem kC.calls (a0:Int) (a1:Int) (a2:Int) (r:Int) (w:World) (h:kC.f a0 a1 a2=some r) :
  Calls Try.prog 169 #[.int .i64 a0,.int .i64 a1,.int .i64 a2] w fun e w'=>e = .returned (.int .i64 r)∧bW w w':=by
 have H:((cR.f a0 a1 a2).bind fun A0=>(if A0=true then (if a2=0 then (if 0≤(IntKind.u64.wrap (a0)) then (some (wrap64 ((shl .i64 1 (IntKind.u64.wrap (a0))) - 1))) else (none)) else (some (wrap64 (Int.tdiv a1 a2)))) else (some 0)))=some r:=h;clear h;replace H:=ob H;obtain ⟨A0,A40,H⟩:=H
 try dsimp only at H
 have A4:=aA.mk A40;clear A40
 by_cases c5:A0=true
 ·subst c5
  have H1:(if a2=0 then (if 0≤(IntKind.u64.wrap (a0)) then (some (wrap64 ((shl .i64 1 (IntKind.u64.wrap (a0))) - 1))) else (none)) else (some (wrap64 (Int.tdiv a1 a2))))=some r:=by rw [if_pos rfl] at H;exact H
  clear H;have H:=H1;clear H1
  by_cases c6:a2=0
  ·rw [if_pos c6] at H;have c6b0:(a2 == 0)=true:=beq_iff_eq.mpr c6;have c6b1:(a2 != 0)=false:=bne_eq_false_iff_eq.mpr c6;clear c6;obtain ⟨ji7,hji7⟩:∃ j_:Int,(IntKind.u64.wrap (a0))=j_:=⟨_,rfl⟩
   replace H:(if 0≤(ji7) then (some (wrap64 ((shl .i64 1 (ji7)) - 1))) else (none))=some r:=by first|(rw [hji7] at H;exact H)|(simp only [hji7] at H ⊢;exact H)
   (try rw [hji7] at A4)
   by_cases c8:0≤(ji7)
   ·rw [if_pos c8] at H;have c8b0:=eq_true c8;have c8b1:decide (0≤(ji7))=true:=decide_eq_true c8;clear c8;obtain ⟨ji9,hji9⟩:∃ j_:Int,(shl .i64 1 (ji7))=j_:=⟨_,rfl⟩
    replace H:(some (wrap64 ((ji9) - 1)))=some r:=by first|(rw [hji9] at H;exact H)|(simp only [hji9] at H ⊢;exact H)
    (try rw [hji9] at A4)
    have hji9_:(IntKind.i64.wrap (1 * 2 ^ min (ji7).toNat 64))=ji9:=hji9;have hji9z:(ji7)≤64→(IntKind.i64.wrap (1 * 2 ^ (ji7).toNat))=ji9:=gU hji9
    have hji9u:(IntKind.i64.wrap (2 ^ min (ji7).toNat 64))=ji9:=by have h_:=hji9_;rw [Int.one_mul] at h_;exact h_
    have hji9v:(ji7)≤64→(IntKind.i64.wrap (2 ^ (ji7).toNat))=ji9:=fun hle_=>by have h_:=hji9z hle_;rw [Int.one_mul] at h_;exact h_
    have hji9y:(wrap64 (1 * 2 ^ min (ji7).toNat 64))=ji9:=(aJ _).symm.trans hji9_
    have hji9x:(ji7)≤64→(wrap64 (1 * 2 ^ (ji7).toNat))=ji9:=fun h_=>(aJ _).symm.trans (hji9z h_)
    obtain rfl:=os H
    go_enter Try.func169,Try.ntmps169
    go_wp2_with (first|((with_reducible refine aD (f:=173) rfl ?_);refine aI (some 11) rfl rfl Try.func173 (by kernel_rfl) rfl #[.int .i64 a0,.int .i64 a1,.int .i64 a2] rfl ml ?_;(with_reducible refine (cR.calls a0 a1 a2 true _ A4.out).mono ?_);rintro e w' ⟨rfl,⟨nd,rfl⟩⟩;refine ⟨_,rfl,?_⟩));go_ret;exact ⟨by first|rfl|(simp;done)|(simp only [← hji7,← hji9] <;> (first|rfl|simp))|(simp [*];done),by repeat (first|exact bW.refl _|apply bW.step)⟩
   ·rw [if_neg c8] at H;exact absurd H (by simp)
  ·rw [if_neg c6] at H;have c6b0:(a2 == 0)=false:=beq_eq_false_iff_ne.mpr c6;have c6b1:(a2 != 0)=true:=bne_iff_ne.mpr c6;obtain rfl:=os H
   go_enter Try.func169,Try.ntmps169
   go_wp2_with (first|((with_reducible refine aD (f:=173) rfl ?_);refine aI (some 11) rfl rfl Try.func173 (by kernel_rfl) rfl #[.int .i64 a0,.int .i64 a1,.int .i64 a2] rfl ml ?_;(with_reducible refine (cR.calls a0 a1 a2 true _ A4.out).mono ?_);rintro e w' ⟨rfl,⟨nd,rfl⟩⟩;refine ⟨_,rfl,?_⟩));go_ret;exact ⟨e1,dn⟩
 ·replace c5:=Bool.eq_false_iff.mpr c5;subst c5
  have H1:(some 0)=some r:=by rw [if_neg (show ¬ (false=true) by decide)] at H;exact H
  clear H;have H:=H1;clear H1;obtain rfl:=os H
  go_enter Try.func169,Try.ntmps169
  go_wp2_with (first|((with_reducible refine aD (f:=173) rfl ?_);refine aI (some 11) rfl rfl Try.func173 (by kernel_rfl) rfl #[.int .i64 a0,.int .i64 a1,.int .i64 a2] rfl ml ?_;(with_reducible refine (cR.calls a0 a1 a2 false _ A4.out).mono ?_);rintro e w' ⟨rfl,⟨nd,rfl⟩⟩;refine ⟨_,rfl,?_⟩));go_ret;exact ⟨e1,dn⟩
def kD.f (a0:Int) (a1:Int) (a2:Int):Option (Int):=(cR.f a0 a1 a2).bind fun A1=>(if A1=true then ((dO.f a0 (wrap64 (a1 * a2))).bind fun A0=>(some A0)) else (some 0))
theorem kD.calls (a0:Int) (a1:Int) (a2:Int) (r:Int) (w:World) (h:kD.f a0 a1 a2=some r) :
  Calls Try.prog 168 #[.int .i64 a0,.int .i64 a1,.int .i64 a2] w fun e w'=>e = .returned (.int .i64 r)∧bW w w':=by
 have H:((cR.f a0 a1 a2).bind fun A1=>(if A1=true then ((dO.f a0 (wrap64 (a1 * a2))).bind fun A0=>(some A0)) else (some 0)))=some r:=h;clear h;replace H:=ob H;obtain ⟨A1,A40,H⟩:=H;replace H:(if A1=true then ((dO.f a0 (wrap64 (a1 * a2))).bind fun A0=>(some A0)) else (some 0))=some r:=H;have A4:=aA.mk A40;clear A40
 by_cases c5:A1=true
 ·subst c5
  have H1:((dO.f a0 (wrap64 (a1 * a2))).bind fun A0=>(some A0))=some r:=by rw [if_pos rfl] at H;exact H
  clear H;have H:=H1;clear H1;replace H:=ob H;obtain ⟨A0,A60,H⟩:=H;replace H:(some A0)=some r:=H;have A6:=aA.mk A60;clear A60;obtain rfl:=os H
  go_enter Try.func168,Try.ntmps168
  go_wp2_with (first|((with_reducible refine aD (f:=173) rfl ?_);refine aI (some 10) rfl rfl Try.func173 (by kernel_rfl) rfl #[.int .i64 a0,.int .i64 a1,.int .i64 a2] rfl ml ?_;(with_reducible refine (cR.calls a0 a1 a2 true _ A4.out).mono ?_);rintro e w' ⟨rfl,⟨nd,rfl⟩⟩;refine ⟨_,rfl,?_⟩)|((with_reducible refine aD (f:=64) rfl ?_);refine aI (some 16) rfl rfl Try.func64 (by kernel_rfl) rfl #[.int .i64 a0,.int .i64 (wrap64 (a1 * a2))] rfl ml ?_;(with_reducible refine (dO.calls a0 (wrap64 (a1 * a2)) A0 _ A6.out).mono ?_);rintro e w' ⟨rfl,⟨nd,rfl⟩⟩;refine ⟨_,rfl,?_⟩));go_ret;exact ⟨e1,dn⟩
 ·replace c5:=Bool.eq_false_iff.mpr c5;subst c5
  have H1:(some 0)=some r:=by rw [if_neg (show ¬ (false=true) by decide)] at H;exact H
  clear H;have H:=H1;clear H1;obtain rfl:=os H
  go_enter Try.func168,Try.ntmps168
  go_wp2_with (first|((with_reducible refine aD (f:=173) rfl ?_);refine aI (some 10) rfl rfl Try.func173 (by kernel_rfl) rfl #[.int .i64 a0,.int .i64 a1,.int .i64 a2] rfl ml ?_;(with_reducible refine (cR.calls a0 a1 a2 false _ A4.out).mono ?_);rintro e w' ⟨rfl,⟨nd,rfl⟩⟩;refine ⟨_,rfl,?_⟩));go_ret;exact ⟨e1,dn⟩
def kE.f (a0:Int) (a1:Int) (a2:Int):Option (Int):=(cR.f a0 a1 a2).bind fun A0=>(if A0=true then (if a2=0 then (some a1) else (some (Int.tmod a1 a2))) else (some 0))
theorem kE.calls (a0:Int) (a1:Int) (a2:Int) (r:Int) (w:World) (h:kE.f a0 a1 a2=some r) :
  Calls Try.prog 170 #[.int .i64 a0,.int .i64 a1,.int .i64 a2] w fun e w'=>e = .returned (.int .i64 r)∧bW w w':=by
 have H:((cR.f a0 a1 a2).bind fun A0=>(if A0=true then (if a2=0 then (some a1) else (some (Int.tmod a1 a2))) else (some 0)))=some r:=h;clear h;replace H:=ob H;obtain ⟨A0,A40,H⟩:=H;replace H:(if A0=true then (if a2=0 then (some a1) else (some (Int.tmod a1 a2))) else (some 0))=some r:=H;have A4:=aA.mk A40;clear A40
 by_cases c5:A0=true
 ·subst c5
  have H1:(if a2=0 then (some a1) else (some (Int.tmod a1 a2)))=some r:=by rw [if_pos rfl] at H;exact H
  clear H;have H:=H1;clear H1
  by_cases c6:a2=0
  ·rw [if_pos c6] at H;have c6b0:(a2 == 0)=true:=beq_iff_eq.mpr c6;have c6b1:(a2 != 0)=false:=bne_eq_false_iff_eq.mpr c6;clear c6;obtain rfl:=os H
   go_enter Try.func170,Try.ntmps170
   go_wp2_with (first|((with_reducible refine aD (f:=173) rfl ?_);refine aI (some 11) rfl rfl Try.func173 (by kernel_rfl) rfl #[.int .i64 a0,.int .i64 a1,.int .i64 a2] rfl ml ?_;(with_reducible refine (cR.calls a0 a1 a2 true _ A4.out).mono ?_);rintro e w' ⟨rfl,⟨nd,rfl⟩⟩;refine ⟨_,rfl,?_⟩));go_ret;exact ⟨e1,dn⟩
  ·rw [if_neg c6] at H;have c6b0:(a2 == 0)=false:=beq_eq_false_iff_ne.mpr c6;have c6b1:(a2 != 0)=true:=bne_iff_ne.mpr c6;obtain rfl:=os H
   go_enter Try.func170,Try.ntmps170
   go_wp2_with (first|((with_reducible refine aD (f:=173) rfl ?_);refine aI (some 11) rfl rfl Try.func173 (by kernel_rfl) rfl #[.int .i64 a0,.int .i64 a1,.int .i64 a2] rfl ml ?_;(with_reducible refine (cR.calls a0 a1 a2 true _ A4.out).mono ?_);rintro e w' ⟨rfl,⟨nd,rfl⟩⟩;refine ⟨_,rfl,?_⟩));go_ret;exact ⟨e1,dn⟩
 ·replace c5:=Bool.eq_false_iff.mpr c5;subst c5
  have H1:(some 0)=some r:=by rw [if_neg (show ¬ (false=true) by decide)] at H;exact H
  clear H;have H:=H1;clear H1;obtain rfl:=os H
  go_enter Try.func170,Try.ntmps170
  go_wp2_with (first|((with_reducible refine aD (f:=173) rfl ?_);refine aI (some 11) rfl rfl Try.func173 (by kernel_rfl) rfl #[.int .i64 a0,.int .i64 a1,.int .i64 a2] rfl ml ?_;(with_reducible refine (cR.calls a0 a1 a2 false _ A4.out).mono ?_);rintro e w' ⟨rfl,⟨nd,rfl⟩⟩;refine ⟨_,rfl,?_⟩));go_ret;exact ⟨e1,dn⟩
end Go.Proofs.Ythipjoioicmcnaa.G
