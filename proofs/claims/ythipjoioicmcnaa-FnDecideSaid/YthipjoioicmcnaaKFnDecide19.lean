-- texts of this session, merged by a program of it (wip/gen/pack.py)
import Derived.Test.YthipjoioicmcnaaKFnDecide1
import Derived.Test.YthipjoioicmcnaaKFnDecide6
import Derived.Test.YthipjoioicmcnaaKFnDecide2
import Derived.Test.YthipjoioicmcnaaKFnDecide15
import Derived.Test.YthipjoioicmcnaaKFnDecide4
import Derived.Test.YthipjoioicmcnaaKFnDecide14
import Derived.Test.YthipjoioicmcnaaKFnDecide3
import Derived.Test.YthipjoioicmcnaaKFnDecide7
import Derived.Test.YthipjoioicmcnaaKFnDecide16
set_option linter.unusedVariables false
set_option linter.unusedSimpArgs false
set_option maxHeartbeats 80000000
set_option maxRecDepth 100000
namespace Go.Proofs.Ythipjoioicmcnaa.G
open Go.RowKit Go.Proofs.YthipjoioicmcnaaW.PrintWords Go.Proofs.YthipjoioicmcnaaW.PrintLast Go.Proofs.YthipjoioicmcnaaW.PrintMore Go.Proofs.Ythipjoioicmcnaa.Sh
attribute [local go_sem] dP dR eA eB dB dC dQ dS
def fW.f (k:Nat) (l0:List Int):Option (List Bool × Int × ByteArray):=(dI.f k l0).bind fun bt102=>((bG.f bt102.1 bt102.2.1 bt102.2.2 7).bind fun bt106=>((eD.f k bt102.1 bt106.2.1 bt106.2.2 bt106.1).bind fun bt109=>((bN.f k bt102.1 bt109.2.1 bt109.2.2 bt106.1).bind fun bt114=>(some (bt109.1,bt114.1,bt114.2.1)))))
theorem fW.calls (k:Nat) (A0:Option Addr) (c0:Nat) (l0:List Int) (r1:List Bool) (r2:Int) (r3:ByteArray) (w:World) (hr0:Kd.C (Kd.int .u8) w A0 l0.length l0) (hc0:l0.length≤c0) (h:fW.f k l0=some (r1,r2,r3)) :
  Calls Try.prog 12 #[.slice A0 l0.length c0] w fun e w'=>∃ v0_:Value,e = .returned (.tuple #[v0_,.agg #[.int .i64 r2,.string r3]])∧Kd.R Kd.bool 4 w' w.heap.size (fun _=>True) v0_ r1∧Below w.heap.size w w':=by
 have hu26:=Try.underlying26;have HR0:=aA.mk hr0;have HC0:=aA.mk hc0;clear hr0 hc0;have HB:=aA.mk (Below.refl w.heap.size w);have H:((dI.f k l0).bind fun bt102=>((bG.f bt102.1 bt102.2.1 bt102.2.2 7).bind fun bt106=>((eD.f k bt102.1 bt106.2.1 bt106.2.2 bt106.1).bind fun bt109=>((bN.f k bt102.1 bt109.2.1 bt109.2.2 bt106.1).bind fun bt114=>(some (bt109.1,bt114.1,bt114.2.1))))))=some (r1,r2,r3):=h;clear h;replace H:=ob H;obtain ⟨⟨A8,Ah,Ai⟩,A20,H⟩:=H
 try dsimp only at H
 have A2:=aA.mk A20;clear A20;replace H:=ob H;obtain ⟨⟨A9,Aj,Ak⟩,A30,H⟩:=H
 try dsimp only at H
 have A3:=aA.mk A30;clear A30;replace H:=ob H;obtain ⟨⟨Af,Ac,Ad⟩,A40,H⟩:=H;replace H:((bN.f k A8 Ac Ad A9).bind fun bt114=>(some (Af,bt114.1,bt114.2.1)))=some (r1,r2,r3):=H;have A4:=aA.mk A40;clear A40;replace H:=ob H;obtain ⟨⟨Ae,Ag,t116,t117⟩,A50,H⟩:=H;replace H:(some (Af,Ae,Ag))=some (r1,r2,r3):=H;have A5:=aA.mk A50;clear A50;simp only [Option.some.injEq,Prod.mk.injEq] at H;obtain ⟨rfl,rfl,rfl⟩:=H
 go_enter Try.func12,Try.ntmps12
 go_wp2_with (first|((with_reducible refine bF (N:=3) rfl ?_);refine bx (N:=3) (cs:=#[.int .i64 0,.string (⟨#[]⟩:ByteArray)]) (t:=26) ?_;intro A7 hg w6 hbox hb;have A1:=aA.mk (hbox);have GW101:=aA.mk ((by rw [hg];exact (aG (tb HB)):w.heap.size≤A7));have GE101:=aA.mk ((by rw [hg];exact (aG (tb HB)):w.heap.size≤A7));replace HB:=aA.mk (aE (tb HB) hb);clear hb hbox hg)|((with_reducible refine aD (f:=54) rfl ?_);refine aI (some 8) rfl rfl Try.func54 (by kernel_rfl) rfl #[.slice A0 l0.length c0] rfl ml ?_;(with_reducible refine (dI.calls k _ _ l0 A8 Ah Ai w _ ?side1 ?side2 ?side3 A2.out).mono ?_);(case side1=>exact tb HB);(case side2=>exact HR0.out);(case side3=>exact HC0.out);rintro e w7 ⟨g105,rfl,hi,hb,hb2⟩;refine ⟨_,rfl,?_⟩;replace HB:=aA.mk (hb);have HI105:=aA.mk (hi);have Aa:=aA.mk (bK.ne_blk hi (aM (g:=A7) (o := .cells #[.int .i64 0,.string (⟨#[]⟩:ByteArray)] 26 (0,0)) (dr A1) hb2) (by decide));have A6:=aA.mk (Ne.symm (bK.ne_blk hi (aM (g:=A7) (o := .cells #[.int .i64 0,.string (⟨#[]⟩:ByteArray)] 26 (0,0)) (dr A1) hb2) (by decide)));replace A1:=aA.mk (aM (g:=A7) (o := .cells #[.int .i64 0,.string (⟨#[]⟩:ByteArray)] 26 (0,0)) (dr A1) hb2);(try clear hb);(try clear hb2);(try clear hk);(try clear hi))|((with_reducible refine aD (f:=55) rfl ?_);refine aI (some 10) rfl rfl Try.func55 (by kernel_rfl) rfl #[.pointer (some ⟨g105,0,none⟩),.int .i64 7] rfl ml ?_;(with_reducible refine (bG.calls g105 A8 Ah Ai 7 A9 Aj Ak w _ ?side1 ?side2 A3.out).mono ?_);(case side1=>exact dJ HI105);(case side2=>exact dX HB HI105);rintro e w8 ⟨rfl,hi,hb,hk⟩;refine ⟨_,rfl,?_⟩;replace A1:=aA.mk (bI.blk hk (g':=A7) (o := .cells #[.int .i64 0,.string (⟨#[]⟩:ByteArray)] 26 (0,0)) (dr A1) A6.out (by simp));replace HB:=aA.mk (hb);replace HI105:=aA.mk (hi);(try clear hb);(try clear hb2);(try clear hk);(try clear hi))|((with_reducible refine aD (f:=56) rfl ?_);refine aI (some 13) rfl rfl Try.func56 (by kernel_rfl) rfl #[.pointer (some ⟨g105,0,none⟩),.int .i64 A9] rfl ml ?_;(with_reducible refine (eD.calls k g105 A8 Aj Ak A9 Af Ac Ad w _ ?side1 ?side2 A4.out).mono ?_);(case side1=>exact dJ HI105);(case side2=>exact dX HB HI105);rintro e w9 ⟨v110,rfl,ho0,hi,hb,hk⟩;refine ⟨_,rfl,?_⟩;replace A1:=aA.mk (bI.blk hk (g':=A7) (o := .cells #[.int .i64 0,.string (⟨#[]⟩:ByteArray)] 26 (0,0)) (dr A1) A6.out (by simp));have Ab:=aA.mk (Kd.R_lower ho0 (aG (dX HB HI105)));replace HB:=aA.mk (hb);replace HI105:=aA.mk (hi);(try clear hb);(try clear hb2);(try clear hk);(try clear hi);(try clear ho0))|((with_reducible refine aD (f:=57) rfl ?_);refine aI (some 17) rfl rfl Try.func57 (by kernel_rfl) rfl #[.pointer (some ⟨g105,0,none⟩),.int .i64 A9] rfl ml ?_;(with_reducible refine (bN.calls k g105 A8 Ac Ad A9 Ae Ag t116 t117 w _ ?side1 ?side2 A5.out).mono ?_);(case side1=>exact dJ HI105);(case side2=>exact dX HB HI105);rintro e w10 ⟨rfl,hi,hb,hk⟩;refine ⟨_,rfl,?_⟩;replace A1:=aA.mk (bI.blk hk (g':=A7) (o := .cells #[.int .i64 0,.string (⟨#[]⟩:ByteArray)] 26 (0,0)) (dr A1) A6.out (by simp));replace Ab:=aA.mk (Kd.R_mono (Kd.R_keep (bK.apart (show bK w _ g105 A8 Ac Ad from by exact dJ HI105) (ra Ab) (by decide)) hk (fun _ h=>h.2)) (fun _ h=>h.1));replace HB:=aA.mk (hb);replace HI105:=aA.mk (hi);(try clear hb);(try clear hb2);(try clear hk);(try clear hi);have hnb11:=A6.out;have hnc11:=Aa.out;have hcz12__:=gP A1;have hfz12__:=f_ A1))
 refine bodyPost_ret (tX rfl _ _ A7 26 #[.int .i64 Ae,.string Ag] (0,0) _ rfl (by (with_reducible repeat (first|refine aW ?_ _|refine aU ?_|refine aX ?_ _));refine bU (cs:=#[.int .i64 Ae,.string (⟨#[]⟩:ByteArray)]) ?_ 1 _ rfl;(with_reducible repeat (first|refine aW ?_ _|refine aU ?_|refine aX ?_ _));refine bU (cs:=#[.int .i64 0,.string (⟨#[]⟩:ByteArray)]) ?_ 0 _ rfl;(with_reducible repeat (first|refine aW ?_ _|refine aU ?_|refine aX ?_ _));exact A1.out) Try.underlying26 rfl (by kernel_rfl)) rfl ?_;exact ⟨_,er,by exact rfs (Kd.R_types Ab.out A1.out (by decide)),dX HB HI105⟩
def cT.l0:Nat→List Int→List Bool→Int→Option (List Int)
 | 0,_,_,_=>none
 | k + 1,x3,x4,x5=>if x5 < 8 then (if 0≤x5 then (if x5 < (x4.length:Int) then (if cL false x4 x5=true then (if x3.length < 17592186044416 then (cT.l0 k (x3 ++ [x5]) x4 (wrap64 (x5 + 1))) else (none)) else (cT.l0 k x3 x4 (wrap64 (x5 + 1)))) else (none)) else (none)) else (some x3)
def cT.f (k:Nat) (l0:List (bL)):Option (List Int):=(some (([]:List Int):List Int)).bind fun y101=>((cE.f k l0).bind fun A7=>(if A7=true then ((aT.f k l0).bind fun A3=>(cT.l0 k y101 A3 0)) else (some y101)))
theorem cT.calls (k:Nat) (A0:Option Addr) (c0:Nat) (l0:List (bL)) (r:List Int) (w:World) (hr0:Kd.C fL w A0 l0.length l0) (hc0:l0.length≤c0) (h:cT.f k l0=some r) :
  Calls Try.prog 128 #[.slice A0 l0.length c0] w fun e w'=>∃ v0_:Value,e = .returned (v0_)∧Kd.R (Kd.int .i64) 3 w' w.heap.size (fun _=>True) v0_ r∧Below w.heap.size w w':=by
 have HR0:=aA.mk hr0;have HC0:=aA.mk hc0;clear hr0 hc0;have HB:=aA.mk (Below.refl w.heap.size w);have H:((some (([]:List Int):List Int)).bind fun y101=>((cE.f k l0).bind fun A7=>(if A7=true then ((aT.f k l0).bind fun A3=>(cT.l0 k y101 A3 0)) else (some y101))))=some r:=h;clear h;obtain ⟨y101,hy101⟩:∃ y_:List Int,y_=(([]:List Int)):=⟨_,rfl⟩;replace H:((cE.f k l0).bind fun A7=>(if A7=true then ((aT.f k l0).bind fun A3=>(cT.l0 k y101 A3 0)) else (some y101)))=some r:=gQ hy101 H;have Ny101:=aA.mk hy101;clear hy101;replace H:=ob H;obtain ⟨A7,A20,H⟩:=H;replace H:(if A7=true then ((aT.f k l0).bind fun A3=>(cT.l0 k y101 A3 0)) else (some y101))=some r:=H;have A2:=aA.mk A20;clear A20
 by_cases c3:A7=true
 ·subst c3
  have H1:((aT.f k l0).bind fun A3=>(cT.l0 k y101 A3 0))=some r:=by rw [if_pos rfl] at H;exact H
  clear H;have H:=H1;clear H1;replace H:=ob H;obtain ⟨A3,A40,H⟩:=H;replace H:(cT.l0 k y101 A3 0)=some r:=H;have A4:=aA.mk A40;clear A40;have H':=aA.mk H;clear H
  go_enter Try.func128,Try.ntmps128
  go_wp2_with (first|((with_reducible refine bF (N:=6) rfl ?_);refine Kd.R_lit (Kd.int .i64) _ 3 ?hg (N:=6) ?hd (xs:=([]:List Int)) (inner:=[]) (ok:=fun _=>True) (okp:=fun _=>True) ?hr ?hp (fun _ hk=>hk) trivial (Below.refl _ _) (Nat.le_refl _) (by simp) ?_;(case hd=>rfl);(case hg=>rfl);(case hr=>first|(go_simp;done)|(go_simp;rfl));(case hp=>exact (cQ.none _ _));intro v102 w5 ho6 hb hg_ hnew_;clear hg_ hnew_;(first|rw [← Ny101.out] at ho6|(simp only [Int.reduceToNat] at ho6;rw [← Ny101.out] at ho6));have A5:=aA.mk (Kd.R_lower ho6 (aG (tb HB)));replace HB:=aA.mk (aE (tb HB) hb);clear hb ho6)|((with_reducible refine aD (f:=104) rfl ?_);refine aI (some 8) rfl rfl Try.func104 (by kernel_rfl) rfl #[.slice A0 l0.length c0] rfl ml ?_;(with_reducible refine (cE.calls k _ _ l0 true _ ?side1 ?side2 A2.out).mono ?_);(case side1=>exact cw (Kd.C_below HR0.out HB.out));(case side2=>exact HC0.out);rintro e w7 ⟨rfl,hb⟩;refine ⟨_,rfl,?_⟩;replace A5:=aA.mk (Kd.R_below (ra A5) hb);replace HB:=aA.mk (aE (tb HB) hb);(try clear hb);(try clear hb2);(try clear hk);(try clear hi))|((with_reducible refine aD (f:=147) rfl ?_);refine aI (some 12) rfl rfl Try.func147 (by kernel_rfl) rfl #[.slice A0 l0.length c0] rfl ml ?_;(with_reducible refine (aT.calls k _ _ l0 A3 _ ?side1 ?side2 A4.out).mono ?_);(case side1=>exact cw (Kd.C_below HR0.out HB.out));(case side2=>exact HC0.out);rintro e w8 ⟨v106,rfl,ho0,hb⟩;refine ⟨_,rfl,?_⟩;replace A5:=aA.mk (Kd.R_below (ra A5) hb);have Aa:=aA.mk (Kd.R_lower ho0 (aG (tb HB)));replace HB:=aA.mk (aE (tb HB) hb);(try clear hb);(try clear hb2);(try clear hk);(try clear hi);(try clear ho0)))
  go_loopg [3,5] k (fun kq v3 v5 w'=>∃ (A6:List Int) (A1:Int),v5 = .int .i64 A1∧aA (cT.l0 kq A6 A3 A1=some r)∧aA (kq≤k)∧aA (Kd.R (Kd.int .i64) 3 w' w.heap.size (fun _=>True) v3 A6)∧aA (Kd.R Kd.bool 4 w' w.heap.size (fun _=>True) v106 A3)∧aA (Below w.heap.size w w'))
  case atStart=>exact ⟨(y101),(0),(by first|rfl|(simp;done)|(simp [*];done)),H',⟨Nat.le_refl _⟩,⟨ra A5⟩,⟨ra Aa⟩,⟨by exact tb HB⟩⟩
  case round =>
   clear H';obtain ⟨A6,A1,rfl,HA,HK1,A9,A8,HB⟩:=hrel
   cases gk with
   | zero=>exact absurd HA.out (by simp [cT.l0])
   | succ k1 =>
    have H:=HA.out;clear HA;simp only [cT.l0] at H
    by_cases c9:A1 < 8
    ·rw [if_pos c9] at H;have c9b0:decide (A1 < 8)=true:=decide_eq_true c9;clear c9
     by_cases c10:0≤A1
     ·rw [if_pos c10] at H;have c10b0:decide (0≤A1)=true:=decide_eq_true c10;clear c10
      by_cases c11:A1 < (A3.length:Int)
      ·rw [if_pos c11] at H;have c11b0:decide (A1 < (A3.length:Int))=true:=decide_eq_true c11;clear c11;obtain ⟨bq12,hbq12⟩:∃ b_:Bool,b_=(cL false A3 A1):=⟨_,rfl⟩
       replace H:(if bq12=true then (if A6.length < 17592186044416 then (cT.l0 k1 (A6 ++ [A1]) A3 (wrap64 (A1 + 1))) else (none)) else (cT.l0 k1 A6 A3 (wrap64 (A1 + 1))))=some r:=by rw [← hbq12] at H;exact H
       have Nbq12:=aA.mk hbq12;clear hbq12
       by_cases c13:bq12=true
       ·subst c13
        have H1:(if A6.length < 17592186044416 then (cT.l0 k1 (A6 ++ [A1]) A3 (wrap64 (A1 + 1))) else (none))=some r:=by rw [if_pos rfl] at H;exact H
        clear H;have H:=H1;clear H1
        by_cases c14:A6.length < 17592186044416
        ·rw [if_pos c14] at H;have LMc14:=aA.mk c14;clear c14;obtain ⟨y109,hy109⟩:∃ y_:List Int,y_=(A6 ++ [A1]):=⟨_,rfl⟩;replace H:(cT.l0 k1 y109 A3 (wrap64 (A1 + 1)))=some r:=gQ hy109 H;have Ny109:=aA.mk hy109;clear hy109;have H':=aA.mk H;clear H;obtain ⟨Ao15,co15,eo15⟩:=Kd.R_slice A8.out;subst eo15;have p108:0≤(A1:Int):=od;have q108:A1 < (A3.length:Int):=od;obtain ⟨ad108,e108,hx108_0⟩:=Kd.at_bool (Kd.R_reads' A8.out).2.2 A1 p108 q108
         (try rw [← Nbq12.out] at hx108_0)
         cases e108;replace p108:=eq_true p108;replace q108:=eq_true q108;go_wp2_with (first|((with_reducible refine cD (b := .append) (xs:=#[.tmp 21,.tmp 23]) rfl ?_);at_builtin;refine Kd.R_append (Kd.int .i64) (w0:=w) w.heap.size rfl (.tmp 21) (.tmp 23) 31 3 (.int .i64 0) 8 rfl Try.underlying31 info3 rfl (by decide) (by omega) u3 A6 A1 [.int .i64 A1] (fun _=>True) (fun _=>False) rfl rfl ?aP (fun _ hk=>hk.elim) ?aF ?aO ?aB ?aS ?aL ?_;(case aP=>exact rfl);(case aB=>exact (tb HB));(case aF=>exact (fun _ _=>trivial));(case aO=>exact (ra A9));(case aS=>exact (aG (tb HB)));(case aL=>have:=LMc14.out;omega);intro v110 w16 ho hb hg hat;rw [← Ny109.out] at ho;replace A8:=aA.mk (Kd.R_over' (ra A8) (Kd.R_typed (ra A9)) (by decide) hg);replace HB:=aA.mk (hb);have Ab:=aA.mk (ho);clear A9;clear ho hb hg hat));go_roundg k1
         case measure=>have:=HK1.out;omega
         case rel=>exact ⟨(y109),(wrap64 (A1 + 1)),(by first|rfl|(simp;done)|(simp [*];done)),H',⟨by have:=HK1.out;omega⟩,⟨ra Ab⟩,⟨ra A8⟩,⟨by exact tb HB⟩⟩
        ·rw [if_neg c14] at H;exact absurd H (by simp)
       ·replace c13:=Bool.eq_false_iff.mpr c13;subst c13
        have H1:(cT.l0 k1 A6 A3 (wrap64 (A1 + 1)))=some r:=by rw [if_neg (show ¬ (false=true) by decide)] at H;exact H
        clear H;have H:=H1;clear H1;have H':=aA.mk H;clear H;obtain ⟨Ao17,co17,eo17⟩:=Kd.R_slice A8.out;subst eo17;have p108:0≤(A1:Int):=od;have q108:A1 < (A3.length:Int):=od;obtain ⟨ad108,e108,hx108_0⟩:=Kd.at_bool (Kd.R_reads' A8.out).2.2 A1 p108 q108
        (try rw [← Nbq12.out] at hx108_0)
        cases e108;replace p108:=eq_true p108;replace q108:=eq_true q108;go_wp2;go_roundg k1
        case measure=>have:=HK1.out;omega
        case rel=>exact ⟨(A6),(wrap64 (A1 + 1)),(by first|rfl|(simp;done)|(simp [*];done)),H',⟨by have:=HK1.out;omega⟩,⟨ra A9⟩,⟨ra A8⟩,⟨by exact tb HB⟩⟩
      ·rw [if_neg c11] at H;exact absurd H (by simp)
     ·rw [if_neg c10] at H;exact absurd H (by simp)
    ·rw [if_neg c9] at H;have c9b0:decide (A1 < 8)=false:=decide_eq_false c9;clear c9;obtain rfl:=os H;go_wp2;go_ret;exact ⟨_,er,ra A9,tb HB⟩
 ·replace c3:=Bool.eq_false_iff.mpr c3;subst c3
  have H1:(some y101)=some r:=by rw [if_neg (show ¬ (false=true) by decide)] at H;exact H
  clear H;have H:=H1;clear H1;obtain rfl:=os H
  go_enter Try.func128,Try.ntmps128
  go_wp2_with (first|((with_reducible refine bF (N:=6) rfl ?_);refine Kd.R_lit (Kd.int .i64) _ 3 ?hg (N:=6) ?hd (xs:=([]:List Int)) (inner:=[]) (ok:=fun _=>True) (okp:=fun _=>True) ?hr ?hp (fun _ hk=>hk) trivial (Below.refl _ _) (Nat.le_refl _) (by simp) ?_;(case hd=>rfl);(case hg=>rfl);(case hr=>first|(go_simp;done)|(go_simp;rfl));(case hp=>exact (cQ.none _ _));intro v102 w18 ho19 hb hg_ hnew_;clear hg_ hnew_;(first|rw [← Ny101.out] at ho19|(simp only [Int.reduceToNat] at ho19;rw [← Ny101.out] at ho19));have A5:=aA.mk (Kd.R_lower ho19 (aG (tb HB)));replace HB:=aA.mk (aE (tb HB) hb);clear hb ho19)|((with_reducible refine aD (f:=104) rfl ?_);refine aI (some 8) rfl rfl Try.func104 (by kernel_rfl) rfl #[.slice A0 l0.length c0] rfl ml ?_;(with_reducible refine (cE.calls k _ _ l0 false _ ?side1 ?side2 A2.out).mono ?_);(case side1=>exact cw (Kd.C_below HR0.out HB.out));(case side2=>exact HC0.out);rintro e w20 ⟨rfl,hb⟩;refine ⟨_,rfl,?_⟩;replace A5:=aA.mk (Kd.R_below (ra A5) hb);replace HB:=aA.mk (aE (tb HB) hb);(try clear hb);(try clear hb2);(try clear hk);(try clear hi)));go_ret;exact ⟨_,er,ra A5,tb HB⟩
section
variable {W:World} {go ck b n:Nat} {kn:List Int} {ok:Nat→Prop}
theorem iR (h:Kd.R (Kd.int .i64) 3 W b ok (.slice (some ⟨go,0,none⟩) n ck) kn) (i:Int) (h0:0≤i) (h1:i < n):W.cell? ⟨go,i.toNat,none⟩=some (.int .i64 (rd kn i))∧W.frozen? ⟨go,i.toNat,none⟩=false:=Kd.R_celln (0:Int) h i h0 h1
theorem jB (h:Kd.R (Kd.int .i64) 3 W b ok (.slice (some ⟨go,0,none⟩) n ck) kn) (i:Int) (v:Int):Kd.R (Kd.int .i64) 3 (W.setCell ⟨go,i.toNat,none⟩ (.int .i64 v)) b ok (.slice (some ⟨go,0,none⟩) n ck) (kn.set i.toNat v)∧W.grownBy (W.setCell ⟨go,i.toNat,none⟩ (.int .i64 v)) (some go):=Kd.R_putg h i v
end
def sR:Nat→List bL→List Int→List Int→Int→Int→List Int→Option (Int × List Int)
 | 0,_,_,_,_,_,_=>none
 | k + 1,l0,l2,ps,j,wd,zs=>if j < (ps.length:Int) then (if 0≤j∧j < (zs.length:Int) then (if 0≤rd ps j∧rd ps j < (l2.length:Int) then (if j=0 then (if rd ps j < (l0.length:Int) then sR k l0 l2 ps (wrap64 (j + 1)) (aC l0 (rd ps j)).f1 (zs.set j.toNat (rd l2 (rd ps j))) else none) else sR k l0 l2 ps (wrap64 (j + 1)) wd (zs.set j.toNat (rd l2 (rd ps j)))) else none) else none) else some (wd,zs)
def gN.f (k:Nat) (l0:List bL) (l1 l2:List Int) (i:Int):Option Int:=if 0≤i∧i < (l0.length:Int) then (if (aC l0 i).f0=1 then (if 0≤(aC l0 i).f2∧(aC l0 i).f2 < (l1.length:Int) then some (rd l1 (aC l0 i).f2) else none) else (bP.f (aC l0 i).f0).bind fun t=>if t=true then none else (cG.f k (aC l0 i).f0 (aC l0 i).f1 (aC l0 i).f2 (aC l0 i).f3 (aC l0 i).f4 (aC l0 i).f5).bind fun ps=>(sR k l0 l2 ps 0 1 [0,0,0]).bind fun q=>bS.f k (aC l0 i).f0 (aC l0 i).f1 (aC l0 i).f2 (aC l0 i).f3 (aC l0 i).f4 (aC l0 i).f5 q.1 (rd q.2 0) (rd q.2 1) (rd q.2 2)) else none
theorem gN.calls (k:Nat) (A0:Option Addr) (c0:Nat) (l0:List (bL)) (A1:Option Addr) (c1:Nat) (l1:List Int) (A2:Option Addr) (c2:Nat) (l2:List Int) (i:Int) (r:Int) (w:World) (hr0:Kd.C fL w A0 l0.length l0) (hc0:l0.length≤c0) (hr1:Kd.C (Kd.int .i64) w A1 l1.length l1) (hc1:l1.length≤c1) (hr2:Kd.C (Kd.int .i64) w A2 l2.length l2) (hc2:l2.length≤c2) (h:gN.f k l0 l1 l2 i=some r) :
  Calls Try.prog 118 #[.slice A0 l0.length c0,.slice A1 l1.length c1,.slice A2 l2.length c2,.int .i64 i] w fun e w'=>e = .returned (.int .i64 r)∧Below w.heap.size w w':=by
 have HR0:=aA.mk hr0;have HR1:=aA.mk hr1;have HR2:=aA.mk hr2;clear hr0 hr1 hr2 hc0 hc1 hc2;unfold gN.f at h
 by_cases c3:0≤i∧i < (l0.length:Int)
 case neg=>rw [if_neg c3] at h;cases h
 rw [if_pos c3] at h;obtain ⟨ad,e_,hx0,hx1,hx2,hx3,hx4,hx5⟩:=dV HR0.out i c3.1 c3.2;cases e_;obtain ⟨c3,c4⟩:=c3;have d3:decide (0≤i)=true:=decide_eq_true c3;have d4:decide (i < (l0.length:Int))=true:=decide_eq_true c4;replace c3:=eq_true c3;replace c4:=eq_true c4;have H:=aA.mk h;clear h
 go_enter Try.func118,Try.ntmps118
 go_upto_region 2 with (first|((with_reducible refine bF (N:=9) rfl ?_);refine bx (N:=9) (cs:=#[.int .i64 0,.int .i64 0,.int .i64 0,.int .i64 0,.int .i64 0,.int .i64 0]) (t:=99) ?_;intro gn hg w1 hbox hb;have BN0:=aA.mk hbox;have HX0:=aA.mk hb;have GN:=aA.mk (show w.heap.size≤gn by rw [hg];exact Nat.le_refl _);have hz0:w1.cell? ⟨gn,0,none⟩=some (.int .i64 0):=(aY BN0.out 0).trans rfl;have hfz0:=dU BN0.out 0;have hz1:w1.cell? ⟨gn,1,none⟩=some (.int .i64 0):=(aY BN0.out 1).trans rfl;have hfz1:=dU BN0.out 1;have hz2:w1.cell? ⟨gn,2,none⟩=some (.int .i64 0):=(aY BN0.out 2).trans rfl;have hfz2:=dU BN0.out 2;have hz3:w1.cell? ⟨gn,3,none⟩=some (.int .i64 0):=(aY BN0.out 3).trans rfl;have hfz3:=dU BN0.out 3;have hz4:w1.cell? ⟨gn,4,none⟩=some (.int .i64 0):=(aY BN0.out 4).trans rfl;have hfz4:=dU BN0.out 4;have hz5:w1.cell? ⟨gn,5,none⟩=some (.int .i64 0):=(aY BN0.out 5).trans rfl;have hfz5:=dU BN0.out 5;clear hg hbox hb))
 have HB5:aA (Below w.heap.size w ((((((w1.setCell ⟨gn,0,none⟩ (.int .i64 (aC l0 i).f0)).setCell ⟨gn,1,none⟩ (.int .i64 (aC l0 i).f1)).setCell ⟨gn,2,none⟩ (.int .i64 (aC l0 i).f2)).setCell ⟨gn,3,none⟩ (.int .i64 (aC l0 i).f3)).setCell ⟨gn,4,none⟩ (.int .i64 (aC l0 i).f4)).setCell ⟨gn,5,none⟩ (.int .i64 (aC l0 i).f5))):=⟨cM (cM (cM (cM (cM (cM (HX0.out) GN.out) GN.out) GN.out) GN.out) GN.out) GN.out⟩;have BN5:aA (((((((w1.setCell ⟨gn,0,none⟩ (.int .i64 (aC l0 i).f0)).setCell ⟨gn,1,none⟩ (.int .i64 (aC l0 i).f1)).setCell ⟨gn,2,none⟩ (.int .i64 (aC l0 i).f2)).setCell ⟨gn,3,none⟩ (.int .i64 (aC l0 i).f3)).setCell ⟨gn,4,none⟩ (.int .i64 (aC l0 i).f4)).setCell ⟨gn,5,none⟩ (.int .i64 (aC l0 i).f5)).heap[gn]? = some (.cells #[.int .i64 (aC l0 i).f0,.int .i64 (aC l0 i).f1,.int .i64 (aC l0 i).f2,.int .i64 (aC l0 i).f3,.int .i64 (aC l0 i).f4,.int .i64 (aC l0 i).f5] 99 (0,0))):=⟨bU (cs:=#[.int .i64 (aC l0 i).f0,.int .i64 (aC l0 i).f1,.int .i64 (aC l0 i).f2,.int .i64 (aC l0 i).f3,.int .i64 (aC l0 i).f4,.int .i64 0]) (bU (cs:=#[.int .i64 (aC l0 i).f0,.int .i64 (aC l0 i).f1,.int .i64 (aC l0 i).f2,.int .i64 (aC l0 i).f3,.int .i64 0,.int .i64 0]) (bU (cs:=#[.int .i64 (aC l0 i).f0,.int .i64 (aC l0 i).f1,.int .i64 (aC l0 i).f2,.int .i64 0,.int .i64 0,.int .i64 0]) (bU (cs:=#[.int .i64 (aC l0 i).f0,.int .i64 (aC l0 i).f1,.int .i64 0,.int .i64 0,.int .i64 0,.int .i64 0]) (bU (cs:=#[.int .i64 (aC l0 i).f0,.int .i64 0,.int .i64 0,.int .i64 0,.int .i64 0,.int .i64 0]) (bU (cs:=#[.int .i64 0,.int .i64 0,.int .i64 0,.int .i64 0,.int .i64 0,.int .i64 0]) (BN0.out) 0 (.int .i64 (aC l0 i).f0) rfl) 1 (.int .i64 (aC l0 i).f1) rfl) 2 (.int .i64 (aC l0 i).f2) rfl) 3 (.int .i64 (aC l0 i).f3) rfl) 4 (.int .i64 (aC l0 i).f4) rfl) 5 (.int .i64 (aC l0 i).f5) rfl⟩;clear hz0 hfz0 hz1 hfz1 hz2 hfz2 hz3 hfz3 hz4 hfz4 hz5 hfz5 BN0 HX0 hx0 hx1 hx2 hx3 hx4 hx5;generalize ((((((w1.setCell ⟨gn,0,none⟩ (.int .i64 (aC l0 i).f0)).setCell ⟨gn,1,none⟩ (.int .i64 (aC l0 i).f1)).setCell ⟨gn,2,none⟩ (.int .i64 (aC l0 i).f2)).setCell ⟨gn,3,none⟩ (.int .i64 (aC l0 i).f3)).setCell ⟨gn,4,none⟩ (.int .i64 (aC l0 i).f4)).setCell ⟨gn,5,none⟩ (.int .i64 (aC l0 i).f5))=w5 at BN5 HB5 ⊢;obtain ⟨hcn0,hcn1,hcn2,hcn3,hcn4,hcn5⟩:=gB BN5;have h:=H.out;clear H
 by_cases c5:(aC l0 i).f0=1
 ·rw [if_pos c5] at h;have d5:((aC l0 i).f0 == 1)=true:=beq_iff_eq.2 c5;clear c5
  by_cases c6:0≤(aC l0 i).f2∧(aC l0 i).f2 < (l1.length:Int)
  case neg=>rw [if_neg c6] at h;cases h
  rw [if_pos c6] at h;obtain rfl:=Option.some.inj h;clear h;obtain ⟨ad1,e_,hy⟩:=Kd.at_int HR1.out _ c6.1 c6.2;cases e_;replace hy:=ct HB5 hy;obtain ⟨c6,c7⟩:=c6;have d6:decide (0≤(aC l0 i).f2)=true:=decide_eq_true c6;have d7:decide ((aC l0 i).f2 < (l1.length:Int))=true:=decide_eq_true c7;replace c6:=eq_true c6;replace c7:=eq_true c7;go_wp2;go_ret;exact ⟨rfl,HB5.out⟩
 rw [if_neg c5] at h;have d5:((aC l0 i).f0 == 1)=false:=beq_eq_false_iff_ne.2 c5;clear c5;obtain ⟨t,ht,h⟩:=Option.bind_eq_some_iff.1 h;have HQ:=aA.mk ht;clear ht
 cases t with
 | true=>rw [if_pos rfl] at h;cases h
 | false =>
 rw [if_neg (by decide)] at h;obtain ⟨ps,hp,h⟩:=Option.bind_eq_some_iff.1 h;obtain ⟨⟨wd',zs'⟩,hl,h⟩:=Option.bind_eq_some_iff.1 h;have HP:=aA.mk hp;have HLL:=aA.mk hl;have HAP0:=aA.mk h;clear hp hl h;go_wp2_with (first|(go_at_call 103;(try simp only [aJ,aN]);(with_reducible refine (bP.calls (aC l0 i).f0 false _ HQ.out).mono ?_);rintro e w' ⟨rfl,⟨nd,rfl⟩⟩)|((with_reducible refine bF (N:=66) rfl ?_);refine Kd.R_lit (Kd.int .i64) _ 3 ?hg (N:=66) ?hd (xs:=([0,0,0]:List Int)) (inner:=[.int .i64 0,.int .i64 0,.int .i64 0]) (ok:=fun _=>True) (okp:=fun _=>True) ?hr ?hp (fun _ hk=>hk) trivial (Below.refl _ _) (Nat.le_refl _) (by simp) ?_;(case hd=>rfl);(case hg=>rfl);(case hr=>first|(go_simp;done)|(go_simp;rfl));(case hp=>exact (cQ.one (show Kd.M (Kd.int .i64) _ _ _ 0 [.int .i64 0] from rfl) (cQ.one (show Kd.M (Kd.int .i64) _ _ _ 0 [.int .i64 0] from rfl) (cQ.one (show Kd.M (Kd.int .i64) _ _ _ 0 [.int .i64 0] from rfl) (cQ.none _ _)))));intro v102 w6 ho hb hg_ hnew_;clear hg_ hnew_;have HZ6:=aA.mk (Kd.R_lower ho (bD HB5.out _).size);have HB6:=aA.mk (aE (bD HB5.out _) hb);have BN6:=aA.mk (aM (aW BN5.out _) hb);clear ho hb;obtain ⟨gz,cz,ez,GZ,GZL,_⟩:=Kd.R_form HZ6.out (by simp);subst ez;have GZ_:=aA.mk GZ;have GZL_:=aA.mk GZL;clear GZ GZL;clear hcn0 hcn1 hcn2 hcn3 hcn4 hcn5;obtain ⟨hcn0,hcn1,hcn2,hcn3,hcn4,hcn5⟩:=gB BN6)|((with_reducible refine aD (f:=99) rfl ?_);(try (refine eY (by rfl) ?_;dsimp only));refine aI (some 68) rfl rfl Try.func99 (by kernel_rfl) rfl #[.agg #[.int .i64 (aC l0 i).f0,.int .i64 (aC l0 i).f1,.int .i64 (aC l0 i).f2,.int .i64 (aC l0 i).f3,.int .i64 (aC l0 i).f4,.int .i64 (aC l0 i).f5]] rfl ml ?_;(with_reducible refine (cG.calls k (aC l0 i).f0 (aC l0 i).f1 (aC l0 i).f2 (aC l0 i).f3 (aC l0 i).f4 (aC l0 i).f5 ps _ HP.out).mono ?_);rintro e w7 ⟨v_,rfl,ho,hb⟩;refine ⟨_,rfl,?_⟩;have HRp:=aA.mk (Kd.R_mono (Kd.R_bound (Kd.R_lower ho (Nat.le_refl _))) (ok':=fun k=>k≠gz) (fun k hk=>by have:=hk.2.1;have:=GZL_.out;omega));have HRq:=aA.mk (Kd.R_lower HRp.out HB6.out.size);have HZ7:=aA.mk (Kd.R_below HZ6.out hb);have HB7:=aA.mk (aE HB6.out hb);have BN7:=aA.mk (aM BN6.out hb);clear ho hb;clear hcn0 hcn1 hcn2 hcn3 hcn4 hcn5;obtain ⟨Ap,cp,ep⟩:=Kd.R_slice HRq.out;subst ep))
 have NZ:=aA.mk (show gn≠gz from fun e=>by
  obtain ⟨cs,hcs⟩:=Kd.R_typed HZ7.out gz rfl;rw [← e,BN7.out] at hcs
  simp at hcs)
 go_loopg [15,17] k (fun kq v15 v17 wr=>∃ (wd j:Int) (zs:List Int),v15 = .int .i64 wd∧v17 = .int .i64 j∧aA (sR kq l0 l2 ps j wd zs=some (wd',zs'))∧aA (kq≤k)∧aA (zs.length=3)∧aA (wr.heap[gn]? = some (.cells #[.int .i64 (aC l0 i).f0,.int .i64 (aC l0 i).f1,.int .i64 (aC l0 i).f2,.int .i64 (aC l0 i).f3,.int .i64 (aC l0 i).f4,.int .i64 (aC l0 i).f5] 99 (0,0)))∧aA (Kd.R (Kd.int .i64) 3 wr w.heap.size (fun k=>k≠gz) (.slice Ap ps.length cp) ps)∧aA (Kd.R (Kd.int .i64) 3 wr w.heap.size (fun _=>True) (.slice (some ⟨gz,0,none⟩) 3 cz) zs)∧aA (Below w.heap.size w wr))
 case atStart=>exact ⟨1,0,[0,0,0],rfl,rfl,HLL,⟨Nat.le_refl _⟩,⟨rfl⟩,BN7,HRq,⟨HZ7.out⟩,HB7⟩
 case round =>
  clear HLL BN7 HRq HRp HZ7 HB7 d3 d4 c3 c4 d5;obtain ⟨wd,j,zs,rfl,rfl,HA,HK1,HL,BN,HR,HZ,HB⟩:=hrel
  cases gk with
  | zero=>exact absurd HA.out (by simp [sR])
  | succ k1 =>
  have H:=HA.out;clear HA;simp only [sR] at H
  by_cases c3:j < (ps.length:Int)
  ·rw [if_pos c3] at H
   by_cases c4:0≤j∧j < (zs.length:Int)
   case neg=>rw [if_neg c4] at H;cases H
   rw [if_pos c4] at H
   by_cases c6:0≤rd ps j∧rd ps j < (l2.length:Int)
   case neg=>rw [if_neg c6] at H;cases H
   rw [if_pos c6] at H;rw [HL.out] at c4;obtain ⟨c4,c5⟩:=c4;obtain ⟨ap,e_,hp⟩:=Kd.at_int (Kd.R_reads' HR.out).2.2 j c4 c3;cases e_;obtain ⟨ad2,e_,hy⟩:=Kd.at_int HR2.out _ c6.1 c6.2;cases e_;replace hy:=ct HB hy;obtain ⟨hz1,hf1⟩:=iR HZ.out j c4 c5;have HZs:=aA.mk (jB HZ.out j (rd l2 (rd ps j))).1;have HRs:=aA.mk (Kd.R_grown HR.out (jB HZ.out j (rd l2 (rd ps j))).2 (fun k hk e=>hk (by injection e)));have HBs:=aA.mk (cM (j:=j.toNat) (v := .int .i64 (rd l2 (rd ps j))) HB.out GZ_.out);obtain ⟨ap2,e_,hp2⟩:=Kd.at_int (Kd.R_reads' HRs.out).2.2 j c4 c3
   obtain rfl:ap=ap2:=by injection e_
   clear e_;have d3:decide (j < (ps.length:Int))=true:=decide_eq_true c3;have d4:decide (0≤j)=true:=decide_eq_true c4;have d7:decide (j < 3)=true:=decide_eq_true c5;obtain ⟨c6,c7⟩:=c6;have C6:=aA.mk c6;have d6:decide (0≤rd ps j)=true:=decide_eq_true c6;have d8:decide (rd ps j < (l2.length:Int))=true:=decide_eq_true c7;replace c3:=eq_true c3;replace c4:=eq_true c4;replace c5:(j < 3)=True:=eq_true c5;replace c6:=eq_true c6;replace c7:=eq_true c7
   by_cases z0:j=0
   ·rw [if_pos z0] at H;have ee0:(j == 0)=true:=beq_iff_eq.2 z0
    by_cases c8:rd ps j < (l0.length:Int)
    case neg=>rw [if_neg c8] at H;cases H
    rw [if_pos c8] at H;obtain ⟨ad3,e_,_,hx1,_⟩:=dV HR0.out (rd ps j) C6.out c8
    obtain rfl:ad=ad3:=by injection e_
    clear e_;replace hx1:=ct HBs hx1;have d9:decide (rd ps j < (l0.length:Int))=true:=decide_eq_true c8;replace c8:=eq_true c8;have H':=aA.mk H;clear H z0;go_wp2;go_roundg k1
    case measure=>have:=HK1.out;omega
    case rel=>exact ⟨_,wrap64 (j + 1),_,(by first|rfl|(simp;done)),(by first|rfl|(simp;done)),H',⟨by have:=HK1.out;omega⟩,⟨by rw [List.length_set];exact HL.out⟩,⟨eL BN.out NZ.out _⟩,HRs,HZs,HBs⟩
   ·rw [if_neg z0] at H;have ee0:(j == 0)=false:=beq_eq_false_iff_ne.2 z0;have H':=aA.mk H;clear H z0;go_wp2;go_roundg k1
    case measure=>have:=HK1.out;omega
    case rel=>exact ⟨_,wrap64 (j + 1),_,(by first|rfl|(simp;done)),(by first|rfl|(simp;done)),H',⟨by have:=HK1.out;omega⟩,⟨by rw [List.length_set];exact HL.out⟩,⟨eL BN.out NZ.out _⟩,HRs,HZs,HBs⟩
  ·rw [if_neg c3] at H;have d3:decide (j < (ps.length:Int))=false:=decide_eq_false c3;clear c3
   obtain ⟨rfl,rfl⟩:wd=wd'∧zs=zs':=by simpa using H
   have HAP:aA (bS.f k (aC l0 i).f0 (aC l0 i).f1 (aC l0 i).f2 (aC l0 i).f3 (aC l0 i).f4 (aC l0 i).f5 wd (rd zs 0) (rd zs 1) (rd zs 2)=some r):=⟨HAP0.out⟩;clear H HAP0;go_wp2;have BN8:=aA.mk (aU BN.out);have HZ8:=aA.mk (Kd.R_drew HZ.out);have HB8:=aA.mk (bO HB.out);refine fM (n:=13) (S:=fun w'=>w'.cell? ⟨gn,0,none⟩=some (.int .i64 (aC l0 i).f0)∧w'.cell? ⟨gn,1,none⟩=some (.int .i64 (aC l0 i).f1)∧w'.cell? ⟨gn,2,none⟩=some (.int .i64 (aC l0 i).f2)∧w'.cell? ⟨gn,3,none⟩=some (.int .i64 (aC l0 i).f3)∧w'.cell? ⟨gn,4,none⟩=some (.int .i64 (aC l0 i).f4)∧w'.cell? ⟨gn,5,none⟩=some (.int .i64 (aC l0 i).f5)∧w'.cell? ⟨gz,0,none⟩=some (.int .i64 (rd zs 0))∧w'.cell? ⟨gz,1,none⟩=some (.int .i64 (rd zs 1))∧w'.cell? ⟨gz,2,none⟩=some (.int .i64 (rd zs 2))) (ds:=[11]) (tf 0 13) (by kernel_rfl) rfl rfl ⟨(aY BN8.out 0).trans rfl,(aY BN8.out 1).trans rfl,(aY BN8.out 2).trans rfl,(aY BN8.out 3).trans rfl,(aY BN8.out 4).trans rfl,(aY BN8.out 5).trans rfl,(iR HZ8.out 0 (by decide) (by decide)).1,(iR HZ8.out 1 (by decide) (by decide)).1,(iR HZ8.out 2 (by decide) (by decide)).1⟩ (fun hHeld=>?_);generalize wr.drew=w8 at BN8 HZ8 HB8 hHeld ⊢;refine pv 1 96 #[false,true,false,false,false,false,false,false,false,false,false,false,false] ?_;refine pv 2 97 #[false,true,true,false,false,false,false,false,false,false,false,false,false] ?_;refine pv 3 98 #[false,true,true,true,false,false,false,false,false,false,false,false,false] ?_;refine pv 5 100 #[false,true,true,true,false,true,false,false,false,false,false,false,false] ?_;refine pv 6 101 #[false,true,true,true,false,true,true,false,false,false,false,false,false] ?_;refine pv 8 103 #[false,true,true,true,false,true,true,false,true,false,false,false,false] ?_;refine pv 9 104 #[false,true,true,true,false,true,true,false,true,true,false,false,false] ?_;refine tv 0 95 #[true,true,true,true,false,true,true,false,true,true,false,false,false] hHeld ?_;refine tv 4 99 #[true,true,true,true,true,true,true,false,true,true,false,false,false] hHeld ?_;refine tv 7 102 (tf 10 3) hHeld ?_;refine tv 10 105 (tf 11 2) hHeld ?_;refine uZ (i:=11) (N:=some 106) (tf 12 1) rfl rfl (by kernel_rfl) (by decide) (fun K hK=>?_);refine fQ Try.func135 (by kernel_rfl) rfl #[.agg #[.int .i64 (aC l0 i).f0,.int .i64 (aC l0 i).f1,.int .i64 (aC l0 i).f2,.int .i64 (aC l0 i).f3,.int .i64 (aC l0 i).f4,.int .i64 (aC l0 i).f5],.int .i64 wd,.int .i64 (rd zs 0),.int .i64 (rd zs 1),.int .i64 (rd zs 2)] (by rfl) rfl rfl (by simp only [List.map_toArray,List.map_cons,List.map_nil];rfl) ?_
   with_reducible refine (bS.calls k (aC l0 i).f0 (aC l0 i).f1 (aC l0 i).f2 (aC l0 i).f3 (aC l0 i).f4 (aC l0 i).f5 wd (rd zs 0) (rd zs 1) (rd zs 2) r _ HAP.out).mono ?_
   rintro e w9 ⟨rfl,hb⟩;refine ⟨_,rfl,?_⟩;have HB9:=aA.mk (aE HB8.out hb);refine hK.out _ _ ?_;clear hK K;refine eG (a':=?_) ?_ ?_;rotate_left
   ·show Act.put _ (some 106) _=_
    simp only [Act.put,s1,s2,s3,aJ,aN];rfl
   refine pv 12 8 (tf 13 0) ?_;refine iG (by kernel_rfl) ?_;go_wp2;go_ret;exact ⟨rfl,HB9.out⟩
def xD (l0:List bL) (l1:List Int) (a2:Int):Nat→List Int→Int→Option Int
 | 0,_,_=>none
 | k + 1,vals,i=>if i≤a2 then (gN.f k l0 l1 vals i).bind fun v=>if vals.length < 17592186044416 then xD l0 l1 a2 k (vals ++ [v]) (wrap64 (i + 1)) else none else (if 0≤a2∧a2 < (vals.length:Int) then some (rd vals a2) else none)
def iU.f (k:Nat) (l0:List bL) (l1:List Int) (a2:Int):Option Int:=xD l0 l1 a2 k [] 0
theorem iU.calls (k:Nat) (A0:Option Addr) (c0:Nat) (l0:List (bL)) (A1:Option Addr) (c1:Nat) (l1:List Int) (a2:Int) (r:Int) (w:World) (hr0:Kd.C fL w A0 l0.length l0) (hc0:l0.length≤c0) (hr1:Kd.C (Kd.int .i64) w A1 l1.length l1) (hc1:l1.length≤c1) (h:iU.f k l0 l1 a2=some r) :
  Calls Try.prog 83 #[.slice A0 l0.length c0,.slice A1 l1.length c1,.int .i64 a2] w fun e w'=>e = .returned (.int .i64 r)∧Below w.heap.size w w':=by
 have HR0:=aA.mk hr0;have HR1:=aA.mk hr1;have HC0:=aA.mk hc0;have HC1:=aA.mk hc1;have HF:aA (xD l0 l1 a2 k [] 0=some r):=⟨h⟩;clear hr0 hr1 hc0 hc1 h
 go_enter Try.func83,Try.ntmps83
 go_wp2_with (first|((with_reducible refine bF (N:=9) rfl ?_);refine Kd.R_lit (Kd.int .i64) _ 3 ?hg (N:=9) ?hd (xs:=([]:List Int)) (inner:=[]) (ok:=fun _=>True) (okp:=fun _=>True) ?hr ?hp (fun _ hk=>hk) trivial (Below.refl _ _) (Nat.le_refl _) (by simp) ?_;(case hd=>rfl);(case hg=>rfl);(case hr=>first|(go_simp;done)|(go_simp;rfl));(case hp=>exact (cQ.none _ _));intro v102 w1 ho hb hg_ hnew_;clear hg_ hnew_;have HO1:=aA.mk ho;have HB1:=aA.mk hb;clear ho hb))
 go_loopg [7,8] k (fun kq v7 v8 wr=>∃ (i:Int) (vals:List Int),v8 = .int .i64 i∧aA (xD l0 l1 a2 kq vals i=some r)∧aA (kq≤k)∧aA (Kd.R (Kd.int .i64) 3 wr w.heap.size (fun _=>True) v7 vals)∧aA (Below w.heap.size w wr))
 case atStart=>exact ⟨0,[],rfl,HF,⟨Nat.le_refl _⟩,HO1,HB1⟩
 case round =>
  clear HF HO1 HB1;obtain ⟨i,vals,rfl,HA,HK1,HO,HB⟩:=hrel;obtain ⟨Av,cv,ev⟩:=Kd.R_slice HO.out;subst ev
  cases gk with
  | zero=>exact absurd HA.out (by simp [xD])
  | succ k1 =>
  have H:=HA.out;clear HA;simp only [xD] at H
  by_cases c3:i≤a2
  ·rw [if_pos c3] at H;obtain ⟨v,hv,H⟩:=Option.bind_eq_some_iff.1 H
   by_cases c4:vals.length < 17592186044416
   case neg=>rw [if_neg c4] at H;cases H
   rw [if_pos c4] at H;have LM:=aA.mk c4;have HV:=aA.mk hv;have H':=aA.mk H;have d3:decide (i≤a2)=true:=decide_eq_true c3;clear hv H c3 c4;go_wp2_with (first|((with_reducible refine aD (f:=118) rfl ?_);(try (refine eY (by rfl) ?_;dsimp only));refine aI (some 20) rfl rfl Try.func118 (by kernel_rfl) rfl #[.slice A0 l0.length c0,.slice A1 l1.length c1,.slice Av vals.length cv,.int .i64 i] rfl ml ?_;(with_reducible refine (gN.calls k1 A0 c0 l0 A1 c1 l1 Av cv vals i v _ (Kd.C_below HR0.out HB.out) HC0.out (Kd.C_below HR1.out HB.out) HC1.out (Kd.R_reads' HO.out).2.2 (Kd.R_reads' HO.out).2.1 HV.out).mono ?_);rintro e w5 ⟨rfl,hb⟩;refine ⟨_,rfl,?_⟩;have HO5:=aA.mk (Kd.R_below HO.out hb);have HB5:=aA.mk (aE HB.out hb);clear hb)|((with_reducible refine cD (b := .append) (xs:=#[.tmp 15,.tmp 21]) rfl ?_);at_builtin;refine Kd.R_append (Kd.int .i64) (w0:=w) w.heap.size rfl (.tmp 15) (.tmp 21) 31 3 (.int .i64 0) 8 rfl Try.underlying31 info3 rfl (by decide) (by omega) (.slice Av vals.length cv) vals v [.int .i64 v] (fun _=>True) (fun _=>False) rfl rfl ?aP (fun _ hk=>hk.elim) ?aF ?aO ?aB ?aS ?aL ?_;(case aP=>exact rfl);(case aB=>exact (by repeat (first|(with_reducible first|exact HB5.out|apply bQ|apply bD|apply bO)|exact HB5.out)));(case aF=>exact (fun _ _=>trivial));(case aO=>exact (ra HO5));(case aS=>exact (aG (by repeat (first|(with_reducible first|exact HB5.out|apply bQ|apply bD|apply bO)|exact HB5.out))));(case aL=>have:=LM.out;omega);intro v105 w6 ho hb hg hat;have HB6:=aA.mk hb;have HO6:=aA.mk ho;clear ho hb hg hat));go_roundg k1
   case measure=>have:=HK1.out;omega
   case rel=>exact ⟨wrap64 (i + 1),vals ++ [v],(by first|rfl|(simp;done)),H',⟨by have:=HK1.out;omega⟩,HO6,HB6⟩
  ·rw [if_neg c3] at H;have d3:decide (i≤a2)=false:=decide_eq_false c3;clear c3
   by_cases c6:0≤a2∧a2 < (vals.length:Int)
   case neg=>rw [if_neg c6] at H;cases H
   rw [if_pos c6] at H;obtain rfl:=os H;obtain ⟨ad1,e_,hy⟩:=Kd.at_int (Kd.R_reads' HO.out).2.2 _ c6.1 c6.2;cases e_;obtain ⟨c6,c7⟩:=c6;have d6:decide (0≤a2)=true:=decide_eq_true c6;have d7:decide (a2 < (vals.length:Int))=true:=decide_eq_true c7;replace c6:=eq_true c6;replace c7:=eq_true c7;clear H;go_wp2;go_ret;exact ⟨rfl,HB.out⟩
mutual
def bV.j0:Nat→List (eS)→List (bL)→Bool→Option (Bool)
 | 0,_,_,_=>none
 | k + 1,x0,x1,x21=>if x21=true then (some false) else ((cN.f k).bind fun t103=>(bV.l0 k x0 x1 t103 0))
def bV.l0:Nat→List (eS)→List (bL)→List Int→Int→Option (Bool)
 | 0,_,_,_,_=>none
 | k + 1,x0,x1,x5,x6=>if x6 < (x0.length:Int) then (if 0≤x6 then ((bB.f ((aV x0 x6).f1) 0 7).bind fun t107=>(if t107=true then ((bB.f ((aV x0 x6).f2) 1 8).bind fun t109=>(if t109=true then (if 0≤((aV x0 x6).f1) then (if ((aV x0 x6).f1) < (x5.length:Int) then (if (rd x5 ((aV x0 x6).f1))=0 then (bV.l0 k x0 x1 (x5.set (((aV x0 x6).f1):Int).toNat ((aV x0 x6).f2)) (wrap64 (x6 + 1))) else (some false)) else (none)) else (none)) else (some false))) else (some false))) else (none)) else ((bH.f k x1).bind fun t115=>(bV.l1 k x1 x5 t115 0))
def bV.l1:Nat→List (bL)→List Int→List Bool→Int→Option (Bool)
 | 0,_,_,_,_=>none
 | k + 1,x1,x5,x7,x8=>if x8 < (x1.length:Int) then (if 0≤x8 then ((bP.f ((aC x1 x8).f0)).bind fun t119=>(if t119=true then (some false) else (if x8 < (x7.length:Int) then (if cL false x7 x8=true then (if ((aC x1 x8).f0)=1 then (if 0≤((aC x1 x8).f2) then (if ((aC x1 x8).f2) < (x5.length:Int) then (if (rd x5 ((aC x1 x8).f2))=((aC x1 x8).f1) then (bV.l1 k x1 x5 x7 (wrap64 (x8 + 1))) else (some false)) else (none)) else (none)) else (bV.l1 k x1 x5 x7 (wrap64 (x8 + 1)))) else (bV.l1 k x1 x5 x7 (wrap64 (x8 + 1)))) else (none)))) else (none)) else (some true)
end
def bV.f (k:Nat) (l0:List (eS)) (l1:List (bL)):Option (Bool):=(cE.f k l1).bind fun t101=>(if t101=true then (if 0≤(wrap64 ((l1.length:Int) - 1)) then (if (wrap64 ((l1.length:Int) - 1)) < (l1.length:Int) then (bV.j0 k l0 l1 (((aC l1 (wrap64 ((l1.length:Int) - 1))).f1) != 1)) else (none)) else (none)) else (bV.j0 k l0 l1 true))
theorem bV.calls (k:Nat) (A0:Option Addr) (c0:Nat) (l0:List (eS)) (A1:Option Addr) (c1:Nat) (l1:List (bL)) (r:Bool) (w:World) (hr0:Kd.C lU w A0 l0.length l0) (hc0:l0.length≤c0) (hr1:Kd.C fL w A1 l1.length l1) (hc1:l1.length≤c1) (h:bV.f k l0 l1=some r) :
  Calls Try.prog 81 #[.slice A0 l0.length c0,.slice A1 l1.length c1] w fun e w'=>e = .returned (.bool r)∧Below w.heap.size w w':=by
 have HR0:=aA.mk hr0;have HR1:=aA.mk hr1;have HC1:=aA.mk hc1;have HB:=aA.mk (Below.refl w.heap.size w);clear hr0 hc0 hr1 hc1;unfold bV.f at h;obtain ⟨t,ht,h⟩:=Option.bind_eq_some_iff.1 h;have HT:=aA.mk ht;clear ht
 cases t with
 | false =>
  rw [if_neg (by decide)] at h
  cases k with
  | zero=>cases h
  | succ k0 =>
  obtain rfl:=Option.some.inj h;clear h
  go_enter Try.func81,Try.ntmps81
  go_wp2_with (first|(go_at_call 104;(try simp only [aJ,aN]);(with_reducible refine (cE.calls _ _ c1 l1 _ _ (Kd.C_below HR1.out (tb HB)) HC1.out HT.out).mono ?_);rintro e w2 ⟨rfl,hb⟩;have HB2:=aA.mk (aE (tb HB) hb);clear hb;(try replace hq:=lV HB2 hq)));go_ret;exact ⟨rfl,(by repeat (first|(with_reducible first|exact HB2.out|apply bQ|apply bD|apply bO)|exact HB2.out))⟩
 | true =>
 rw [if_pos rfl] at h
 by_cases c3:0≤wrap64 ((l1.length:Int) - 1)
 case neg=>rw [if_neg c3] at h;cases h
 by_cases c4:wrap64 ((l1.length:Int) - 1) < (l1.length:Int)
 case neg=>rw [if_pos c3,if_neg c4] at h;cases h
 rw [if_pos c3,if_pos c4] at h;obtain ⟨ad,e_,_,hq,_⟩:=dV HR1.out _ c3 c4;cases e_;have d3:decide (0≤wrap64 ((l1.length:Int) - 1))=true:=decide_eq_true c3;have d4:decide (wrap64 ((l1.length:Int) - 1) < (l1.length:Int))=true:=decide_eq_true c4;replace c3:=eq_true c3;replace c4:=eq_true c4
 cases k with
 | zero=>cases h
 | succ k0 =>
 cases b0:((aC l1 (wrap64 ((l1.length:Int) - 1))).f1 != 1) with
 | true =>
  rw [b0] at h;obtain rfl:=Option.some.inj h;clear h
  go_enter Try.func81,Try.ntmps81
  go_wp2_with (first|(go_at_call 104;(try simp only [aJ,aN]);(with_reducible refine (cE.calls _ _ c1 l1 _ _ (Kd.C_below HR1.out (tb HB)) HC1.out HT.out).mono ?_);rintro e w2 ⟨rfl,hb⟩;have HB2:=aA.mk (aE (tb HB) hb);clear hb;(try replace hq:=lV HB2 hq)));go_ret;exact ⟨rfl,(by repeat (first|(with_reducible first|exact HB2.out|apply bQ|apply bD|apply bO)|exact HB2.out))⟩
 | false =>
 rw [b0] at h;simp only [bV.j0,Bool.false_eq_true,if_false] at h;obtain ⟨uK,hz,h⟩:=Option.bind_eq_some_iff.1 h;have HZ:=aA.mk (show cN.f k0=some uK from hz);have HF:=aA.mk h;clear hz h
 go_enter Try.func81,Try.ntmps81
 go_wp2_with (first|(go_at_call 104;(try simp only [aJ,aN]);(with_reducible refine (cE.calls _ _ c1 l1 _ _ (Kd.C_below HR1.out (tb HB)) HC1.out HT.out).mono ?_);rintro e w2 ⟨rfl,hb⟩;have HB2:=aA.mk (aE (tb HB) hb);clear hb;(try replace hq:=lV HB2 hq))|(go_at_call 82;(try simp only [aJ,aN]);(with_reducible refine (cN.calls _ _ _ HZ.out).mono ?_);rintro e w3 ⟨v5,rfl,ho,hb⟩;have HB3:=aA.mk (aE (by repeat (first|(with_reducible first|exact HB2.out|apply bQ|apply bD|apply bO)|exact HB2.out)) hb);have HO3:=aA.mk (Kd.R_lower ho (aG (by repeat (first|(with_reducible first|exact HB2.out|apply bQ|apply bD|apply bO)|exact HB2.out))));clear ho hb));clear hq c3 c4 d3 d4 b0;obtain ⟨Aw,cw,ew⟩:=Kd.R_slice HO3.out;subst ew
 go_loopg [6] k0 (fun kq v6 wr=>∃ (i:Int) (ws:List Int),v6 = .int .i64 i∧aA (bV.l0 kq l0 l1 ws i=some r)∧aA (kq≤k0)∧aA (ws.length=uK.length)∧aA (Kd.R (Kd.int .i64) 3 wr w.heap.size (fun _=>True) (.slice Aw uK.length cw) ws)∧aA (Below w.heap.size w wr))
 case atStart=>exact ⟨0,uK,rfl,HF,⟨Nat.le_refl _⟩,⟨rfl⟩,⟨(ra HO3)⟩,⟨(by repeat (first|(with_reducible first|exact HB3.out|apply bQ|apply bD|apply bO)|exact HB3.out))⟩⟩
 case round =>
  clear HF HO3 HB3 HB2 HB;obtain ⟨i,ws,rfl,HA,HK1,HL,HO,HB⟩:=hrel
  cases gk with
  | zero=>exact absurd HA.out (by simp [bV.l0])
  | succ k1 =>
  have H:=HA.out;clear HA;simp only [bV.l0,aCA,Option.bind_some] at H
  by_cases c5:i < (l0.length:Int)
  ·rw [if_pos c5] at H
   by_cases c6:0≤i
   case neg=>rw [if_neg c6] at H;cases H
   rw [if_pos c6] at H;obtain ⟨ad2,e_,hx0,hx1,hx2⟩:=jA HR0.out i c6 c5;cases e_;replace hx0:=lV HB hx0;replace hx1:=lV HB hx1;replace hx2:=lV HB hx2;have d5:decide (i < (l0.length:Int))=true:=decide_eq_true c5;have d6:decide (0≤i)=true:=decide_eq_true c6;replace c5:=eq_true c5;replace c6:=eq_true c6
   by_cases b1:qQ (aV l0 i).f1 0 7=true
   case neg =>
    rw [if_neg b1] at H;replace b1:=Bool.eq_false_iff.2 b1;obtain rfl:=os H;clear H;go_wp2_with (first|(go_at_call 69;(try simp only [aJ,aN]);(with_reducible refine (rY _ _ _ _).mono ?_);rintro e w' ⟨rfl,⟨nd,rfl⟩⟩;(try exact dd)));(repeat (go_quiet (first|(go_at_call 69;(try simp only [aJ,aN]);(with_reducible refine (rY _ _ _ _).mono ?_);rintro e w' ⟨rfl,⟨nd,rfl⟩⟩;(try exact dd)));try go_wp2_with (first|(go_at_call 69;(try simp only [aJ,aN]);(with_reducible refine (rY _ _ _ _).mono ?_);rintro e w' ⟨rfl,⟨nd,rfl⟩⟩;(try exact dd)))));go_ret;exact ⟨rfl,(tb HB)⟩
   rw [if_pos b1] at H
   by_cases b2:qQ (aV l0 i).f2 1 8=true
   case neg =>
    rw [if_neg b2] at H;replace b2:=Bool.eq_false_iff.2 b2;obtain rfl:=os H;clear H;go_wp2_with (first|(go_at_call 69;(try simp only [aJ,aN]);(with_reducible refine (rY _ _ _ _).mono ?_);rintro e w' ⟨rfl,⟨nd,rfl⟩⟩;(try exact dd)));(repeat (go_quiet (first|(go_at_call 69;(try simp only [aJ,aN]);(with_reducible refine (rY _ _ _ _).mono ?_);rintro e w' ⟨rfl,⟨nd,rfl⟩⟩;(try exact dd)));try go_wp2_with (first|(go_at_call 69;(try simp only [aJ,aN]);(with_reducible refine (rY _ _ _ _).mono ?_);rintro e w' ⟨rfl,⟨nd,rfl⟩⟩;(try exact dd)))));go_ret;exact ⟨rfl,(tb HB)⟩
   rw [if_pos b2] at H
   by_cases c7:0≤(aV l0 i).f1
   case neg=>rw [if_neg c7] at H;cases H
   by_cases c8:(aV l0 i).f1 < (ws.length:Int)
   case neg=>rw [if_pos c7,if_neg c8] at H;cases H
   rw [if_pos c7,if_pos c8] at H;obtain ⟨gw,cw2,ew,GW,_,_⟩:=Kd.R_form HO.out (by omega)
   obtain ⟨rfl,rfl⟩:Aw=some ⟨gw,0,none⟩∧cw=cw2:=by injection ew;exact ⟨by assumption,by assumption⟩
   clear ew;rw [HL.out] at c8;obtain ⟨hy,hyf⟩:=Kd.R_celln (0:Int) HO.out _ c7 c8
   change wr.cell? _=some (.int .i64 (rd ws (aV l0 i).f1)) at hy
   have d7:decide (0≤(aV l0 i).f1)=true:=decide_eq_true c7;have d8:decide ((aV l0 i).f1 < (uK.length:Int))=true:=decide_eq_true c8;have d9:decide ((aV l0 i).f1 < (ws.length:Int))=true:=decide_eq_true (by rw [HL.out];exact c8);replace c7:=eq_true c7;replace c8:=eq_true c8
   by_cases b3:rd ws (aV l0 i).f1=0
   case neg =>
    rw [if_neg b3] at H;replace b3:=bne_iff_ne.2 b3;obtain rfl:=os H;clear H;go_wp2_with (first|(go_at_call 69;(try simp only [aJ,aN]);(with_reducible refine (rY _ _ _ _).mono ?_);rintro e w' ⟨rfl,⟨nd,rfl⟩⟩;(try exact dd)));(repeat (go_quiet (first|(go_at_call 69;(try simp only [aJ,aN]);(with_reducible refine (rY _ _ _ _).mono ?_);rintro e w' ⟨rfl,⟨nd,rfl⟩⟩;(try exact dd)));try go_wp2_with (first|(go_at_call 69;(try simp only [aJ,aN]);(with_reducible refine (rY _ _ _ _).mono ?_);rintro e w' ⟨rfl,⟨nd,rfl⟩⟩;(try exact dd)))));go_ret;exact ⟨rfl,(tb HB)⟩
   rw [if_pos b3] at H;have b4:=bne_eq_false_iff_eq.2 b3;have H':=aA.mk H;have HO4:=aA.mk (Kd.R_putg (Kd.R_drewN (Kd.R_drew HO.out) 0) (aV l0 i).f1 (aV l0 i).f2).1;have GW_:=aA.mk GW;clear H b3 GW
   go_upto_region 9 with (first|(go_at_call 69;(try simp only [aJ,aN]);(with_reducible refine (rY _ _ _ _).mono ?_);rintro e w' ⟨rfl,⟨nd,rfl⟩⟩;(try exact dd)))
   refine fM (n:=13) (S:=fun w'=>∀ p,w'.cell? p=wr.cell? p) (ds:=[12]) (tF 0 13) (by kernel_rfl) rfl rfl (fun _=>rfl) (fun hHeld=>?_)
   repeat (first|(refine pV (v:=undef) (a':=?_) rfl rfl (by kernel_rfl) (fun _ _ _ h=>h) (Or.inr ⟨by rfl,rfl⟩) ?_ ?_;rotate_left;(simp only [Act.put,List.replicate,List.cons_append,List.nil_append,List.append_nil,List.setIfInBounds_toArray,List.set_cons_zero,List.set_cons_succ,aJ,aN];rfl))|(refine pV (v:=?_) (a':=?_) rfl rfl (by kernel_rfl) (fun _ _ _ h=>h) (Or.inl ⟨by rfl,?_⟩) ?_ ?_;rotate_left;(intro w';go_simp;with_reducible rfl);rotate_left;(simp only [Act.put,List.replicate,List.cons_append,List.nil_append,List.append_nil,List.setIfInBounds_toArray,List.set_cons_zero,List.set_cons_succ,aJ,aN];rfl))|(refine yX (v:=?_) (a':=?_) rfl rfl (by kernel_rfl) (fun _ _ _ h=>h) (Or.inl ⟨by rfl,?_⟩) hHeld ?_ ?_;rotate_left;(intro w' s0;go_simp;with_reducible rfl);rotate_left;(simp only [Act.put,List.replicate,List.cons_append,List.nil_append,List.append_nil,List.setIfInBounds_toArray,List.set_cons_zero,List.set_cons_succ,aJ,aN];rfl)))
   refine yC (w1:=?_) rfl rfl (by kernel_rfl) (by decide) (by rfl) ?_ (by kernel_rfl) ?_;rotate_left;(go_simp;rfl);go_wp2;go_roundg k1
   case measure=>have:=HK1.out;omega
   case rel=>exact ⟨wrap64 (i + 1),_,rfl,H',⟨by have:=HK1.out;omega⟩,⟨by rw [List.length_set];exact HL.out⟩,⟨(Kd.R_putg (Kd.R_drew (Kd.R_drewN HO.out _)) (aV l0 i).f1 (aV l0 i).f2).1⟩,⟨cM (bO (bD HB.out _)) GW_.out⟩⟩
  ·rw [if_neg c5] at H;have d5:decide (i < (l0.length:Int))=false:=decide_eq_false c5;obtain ⟨ms,hm,H⟩:=Option.bind_eq_some_iff.1 H;have HM:=aA.mk hm;have HF:=aA.mk H;clear c5 hm H;go_wp2_with (first|(go_at_call 102;(try simp only [aJ,aN]);(with_reducible refine (bH.calls _ _ c1 l1 _ _ (Kd.C_below HR1.out (tb HB)) HC1.out HM.out).mono ?_);rintro e w5 ⟨v7,rfl,ho,hb⟩;have HBr:=aA.mk (aE (tb HB) hb);have HMr:=aA.mk (Kd.R_lower ho (aG (tb HB)));have HNe:=aA.mk (Kd.R_below (ra HO) hb);clear ho hb));obtain ⟨Am,cm,em⟩:=Kd.R_slice HMr.out;subst em
   go_loopg [8] k1 (fun kq v8 wr=>∃ (i:Int),v8 = .int .i64 i∧aA (bV.l1 kq l1 ws ms i=some r)∧aA (kq≤k1)∧aA (Kd.R (Kd.int .i64) 3 wr w.heap.size (fun _=>True) (.slice Aw uK.length cw) ws)∧aA (Kd.R Kd.bool 4 wr w.heap.size (fun _=>True) (.slice Am ms.length cm) ms)∧aA (Below w.heap.size w wr))
   case atStart=>exact ⟨0,rfl,HF,⟨Nat.le_refl _⟩,HNe,HMr,HBr⟩
   case round =>
    clear HF HNe HMr HBr HB HO d5 HK1;obtain ⟨i,rfl,HA,HK1,HO,HMs,HB⟩:=hrel
    cases gk with
    | zero=>exact absurd HA.out (by simp [bV.l1])
    | succ k2 =>
    have H:=HA.out;clear HA;simp only [bV.l1] at H
    by_cases c5:i < (l1.length:Int)
    ·rw [if_pos c5] at H
     by_cases c6:0≤i
     case neg=>rw [if_neg c6] at H;cases H
     rw [if_pos c6] at H;obtain ⟨ad2,e_,hx0,hx1,hx2,_⟩:=dV HR1.out i c6 c5;obtain rfl:ad=ad2:=(by injection e_);clear e_;replace hx0:=lV HB hx0;replace hx1:=lV HB hx1;replace hx2:=lV HB hx2;have d5:decide (i < (l1.length:Int))=true:=decide_eq_true c5;have d6:decide (0≤i)=true:=decide_eq_true c6;obtain ⟨t,hq,H⟩:=Option.bind_eq_some_iff.1 H;have HQ:=aA.mk hq;clear hq;have C6:=aA.mk c6;replace c5:=eq_true c5;replace c6:=eq_true c6
     cases t with
     | true =>
      rw [if_pos rfl] at H;obtain rfl:=os H;clear H;go_wp2_with (first|(go_at_call 103;(try simp only [aJ,aN]);(with_reducible refine (bP.calls (aC l1 i).f0 _ _ HQ.out).mono ?_);rintro e w' ⟨rfl,⟨nd,rfl⟩⟩;(try exact dd)));(repeat (go_quiet (first|(go_at_call 103;(try simp only [aJ,aN]);(with_reducible refine (bP.calls (aC l1 i).f0 _ _ HQ.out).mono ?_);rintro e w' ⟨rfl,⟨nd,rfl⟩⟩;(try exact dd)));try go_wp2_with (first|(go_at_call 103;(try simp only [aJ,aN]);(with_reducible refine (bP.calls (aC l1 i).f0 _ _ HQ.out).mono ?_);rintro e w' ⟨rfl,⟨nd,rfl⟩⟩;(try exact dd)))));go_ret;exact ⟨rfl,(tb HB)⟩
     | false =>
     rw [if_neg (by decide)] at H
     by_cases c7:i < (ms.length:Int)
     case neg=>rw [if_neg c7] at H;cases H
     rw [if_pos c7] at H;obtain ⟨am,e_,hm⟩:=Kd.at_bool (Kd.R_reads' HMs.out).2.2 i C6.out c7;cases e_;have d7:decide (i < (ms.length:Int))=true:=decide_eq_true c7;replace c7:=eq_true c7
     cases b1:cL false ms i with
     | false =>
      rw [if_neg (by rw [b1];decide)] at H;rw [b1] at hm;have H':=aA.mk H;clear H b1;go_wp2_with (first|(go_at_call 103;(try simp only [aJ,aN]);(with_reducible refine (bP.calls (aC l1 i).f0 _ _ HQ.out).mono ?_);rintro e w' ⟨rfl,⟨nd,rfl⟩⟩;(try exact dd)));(repeat (go_quiet (first|(go_at_call 103;(try simp only [aJ,aN]);(with_reducible refine (bP.calls (aC l1 i).f0 _ _ HQ.out).mono ?_);rintro e w' ⟨rfl,⟨nd,rfl⟩⟩;(try exact dd)));try go_wp2_with (first|(go_at_call 103;(try simp only [aJ,aN]);(with_reducible refine (bP.calls (aC l1 i).f0 _ _ HQ.out).mono ?_);rintro e w' ⟨rfl,⟨nd,rfl⟩⟩;(try exact dd)))));go_roundg k2;(case measure=>have:=HK1.out;omega);(case rel=>exact ⟨wrap64 (i + 1),rfl,H',⟨by have:=HK1.out;omega⟩,⟨(ra HO)⟩,⟨(ra HMs)⟩,⟨(tb HB)⟩⟩)
     | true =>
     rw [if_pos b1] at H;rw [b1] at hm;clear b1
     by_cases c8:(aC l1 i).f0=1
     case neg =>
      rw [if_neg c8] at H;have b2:=beq_eq_false_iff_ne.2 c8;have H':=aA.mk H;clear H c8;go_wp2_with (first|(go_at_call 103;(try simp only [aJ,aN]);(with_reducible refine (bP.calls (aC l1 i).f0 _ _ HQ.out).mono ?_);rintro e w' ⟨rfl,⟨nd,rfl⟩⟩;(try exact dd)));(repeat (go_quiet (first|(go_at_call 103;(try simp only [aJ,aN]);(with_reducible refine (bP.calls (aC l1 i).f0 _ _ HQ.out).mono ?_);rintro e w' ⟨rfl,⟨nd,rfl⟩⟩;(try exact dd)));try go_wp2_with (first|(go_at_call 103;(try simp only [aJ,aN]);(with_reducible refine (bP.calls (aC l1 i).f0 _ _ HQ.out).mono ?_);rintro e w' ⟨rfl,⟨nd,rfl⟩⟩;(try exact dd)))));go_roundg k2;(case measure=>have:=HK1.out;omega);(case rel=>exact ⟨wrap64 (i + 1),rfl,H',⟨by have:=HK1.out;omega⟩,⟨(ra HO)⟩,⟨(ra HMs)⟩,⟨(tb HB)⟩⟩)
     rw [if_pos c8] at H;have b2:=beq_iff_eq.2 c8;clear c8
     by_cases c9:0≤(aC l1 i).f2
     case neg=>rw [if_neg c9] at H;cases H
     by_cases c10:(aC l1 i).f2 < (ws.length:Int)
     case neg=>rw [if_pos c9,if_neg c10] at H;cases H
     rw [if_pos c9,if_pos c10] at H;obtain ⟨aw,e_,hy⟩:=Kd.at_int (Kd.R_reads' HO.out).2.2 _ c9 c10;cases e_;rw [HL.out] at c10;have d9:decide (0≤(aC l1 i).f2)=true:=decide_eq_true c9;have d10:decide ((aC l1 i).f2 < (uK.length:Int))=true:=decide_eq_true c10;replace c9:=eq_true c9;replace c10:=eq_true c10
     by_cases c11:rd ws (aC l1 i).f2=(aC l1 i).f1
     ·rw [if_pos c11] at H;have b3:=bne_eq_false_iff_eq.2 c11;have H':=aA.mk H;clear H c11;go_wp2_with (first|(go_at_call 103;(try simp only [aJ,aN]);(with_reducible refine (bP.calls (aC l1 i).f0 _ _ HQ.out).mono ?_);rintro e w' ⟨rfl,⟨nd,rfl⟩⟩;(try exact dd)));(repeat (go_quiet (first|(go_at_call 103;(try simp only [aJ,aN]);(with_reducible refine (bP.calls (aC l1 i).f0 _ _ HQ.out).mono ?_);rintro e w' ⟨rfl,⟨nd,rfl⟩⟩;(try exact dd)));try go_wp2_with (first|(go_at_call 103;(try simp only [aJ,aN]);(with_reducible refine (bP.calls (aC l1 i).f0 _ _ HQ.out).mono ?_);rintro e w' ⟨rfl,⟨nd,rfl⟩⟩;(try exact dd)))));go_roundg k2;(case measure=>have:=HK1.out;omega);(case rel=>exact ⟨wrap64 (i + 1),rfl,H',⟨by have:=HK1.out;omega⟩,⟨(ra HO)⟩,⟨(ra HMs)⟩,⟨(tb HB)⟩⟩)
     ·rw [if_neg c11] at H;have b3:=bne_iff_ne.2 c11;obtain rfl:=os H;clear H c11;go_wp2_with (first|(go_at_call 103;(try simp only [aJ,aN]);(with_reducible refine (bP.calls (aC l1 i).f0 _ _ HQ.out).mono ?_);rintro e w' ⟨rfl,⟨nd,rfl⟩⟩;(try exact dd)));(repeat (go_quiet (first|(go_at_call 103;(try simp only [aJ,aN]);(with_reducible refine (bP.calls (aC l1 i).f0 _ _ HQ.out).mono ?_);rintro e w' ⟨rfl,⟨nd,rfl⟩⟩;(try exact dd)));try go_wp2_with (first|(go_at_call 103;(try simp only [aJ,aN]);(with_reducible refine (bP.calls (aC l1 i).f0 _ _ HQ.out).mono ?_);rintro e w' ⟨rfl,⟨nd,rfl⟩⟩;(try exact dd)))));go_ret;exact ⟨rfl,(tb HB)⟩
    ·rw [if_neg c5] at H;have d5:decide (i < (l1.length:Int))=false:=decide_eq_false c5;obtain rfl:=os H;clear H c5;go_wp2;go_ret;exact ⟨rfl,(tb HB)⟩
def eF.f (a0:Int) (a1:Int) (a2:Int) (a3:Int):Option (Int):=if a0=3 then (some (Go.bits .and .i64 a2 a3)) else (if a0=4 then (some (Go.bits .or .i64 a2 a3)) else (if a0=5 then (some (Go.bits .xor .i64 a2 a3)) else (if a0=6 then ((kB.f a1 a2 a3).bind fun A0=>(some A0)) else (if a0=7 then ((kH.f a1 a2 a3).bind fun A1=>(some A1)) else (if a0=8 then ((kD.f a1 a2 a3).bind fun A2=>(some A2)) else (if a0=9 then ((kC.f a1 a2 a3).bind fun A3=>(some A3)) else (if a0=10 then ((kE.f a1 a2 a3).bind fun A4=>(some A4)) else (if a0=11 then ((kF.f a1 a2 a3).bind fun A5=>(some A5)) else ((kG.f a1 a2 a3).bind fun A6=>(some A6))))))))))
theorem eF.calls (a0:Int) (a1:Int) (a2:Int) (a3:Int) (r:Int) (w:World) (h:eF.f a0 a1 a2 a3=some r) :
  Calls Try.prog 141 #[.int .i64 a0,.int .i64 a1,.int .i64 a2,.int .i64 a3] w fun e w'=>e = .returned (.int .i64 r)∧bW w w':=by
 have H:(if a0=3 then (some (Go.bits .and .i64 a2 a3)) else (if a0=4 then (some (Go.bits .or .i64 a2 a3)) else (if a0=5 then (some (Go.bits .xor .i64 a2 a3)) else (if a0=6 then ((kB.f a1 a2 a3).bind fun A0=>(some A0)) else (if a0=7 then ((kH.f a1 a2 a3).bind fun A1=>(some A1)) else (if a0=8 then ((kD.f a1 a2 a3).bind fun A2=>(some A2)) else (if a0=9 then ((kC.f a1 a2 a3).bind fun A3=>(some A3)) else (if a0=10 then ((kE.f a1 a2 a3).bind fun A4=>(some A4)) else (if a0=11 then ((kF.f a1 a2 a3).bind fun A5=>(some A5)) else ((kG.f a1 a2 a3).bind fun A6=>(some A6)))))))))))=some r:=h;clear h
 by_cases c5:a0=3
 ·rw [if_pos c5] at H;have c5b0:(a0 == 3)=true:=beq_iff_eq.mpr c5;have c5b1:(a0 != 3)=false:=bne_eq_false_iff_eq.mpr c5;clear c5;obtain rfl:=os H
  go_enter Try.func141,Try.ntmps141
  go_wp2;go_ret;exact ⟨e1,dn⟩
 ·rw [if_neg c5] at H;have c5b0:(a0 == 3)=false:=beq_eq_false_iff_ne.mpr c5;have c5b1:(a0 != 3)=true:=bne_iff_ne.mpr c5
  by_cases c6:a0=4
  ·rw [if_pos c6] at H;have c6b0:(a0 == 4)=true:=beq_iff_eq.mpr c6;have c6b1:(a0 != 4)=false:=bne_eq_false_iff_eq.mpr c6;clear c6;obtain rfl:=os H
   go_enter Try.func141,Try.ntmps141
   go_wp2;go_ret;exact ⟨e1,dn⟩
  ·rw [if_neg c6] at H;have c6b0:(a0 == 4)=false:=beq_eq_false_iff_ne.mpr c6;have c6b1:(a0 != 4)=true:=bne_iff_ne.mpr c6
   by_cases c7:a0=5
   ·rw [if_pos c7] at H;have c7b0:(a0 == 5)=true:=beq_iff_eq.mpr c7;have c7b1:(a0 != 5)=false:=bne_eq_false_iff_eq.mpr c7;clear c7;obtain rfl:=os H
    go_enter Try.func141,Try.ntmps141
    go_wp2;go_ret;exact ⟨e1,dn⟩
   ·rw [if_neg c7] at H;have c7b0:(a0 == 5)=false:=beq_eq_false_iff_ne.mpr c7;have c7b1:(a0 != 5)=true:=bne_iff_ne.mpr c7
    by_cases c8:a0=6
    ·rw [if_pos c8] at H;have c8b0:(a0 == 6)=true:=beq_iff_eq.mpr c8;have c8b1:(a0 != 6)=false:=bne_eq_false_iff_eq.mpr c8;clear c8;replace H:=ob H;obtain ⟨A0,A90,H⟩:=H;replace H:(some A0)=some r:=H;have A9:=aA.mk A90;clear A90;obtain rfl:=os H
     go_enter Try.func141,Try.ntmps141
     go_wp2_with (first|((with_reducible refine aD (f:=166) rfl ?_);refine aI (some 30) rfl rfl Try.func166 (by kernel_rfl) rfl #[.int .i64 a1,.int .i64 a2,.int .i64 a3] rfl ml ?_;(with_reducible refine (kB.calls a1 a2 a3 A0 _ A9.out).mono ?_);rintro e w' ⟨rfl,⟨nd,rfl⟩⟩;refine ⟨_,rfl,?_⟩));go_ret;exact ⟨e1,dn⟩
    ·rw [if_neg c8] at H;have c8b0:(a0 == 6)=false:=beq_eq_false_iff_ne.mpr c8;have c8b1:(a0 != 6)=true:=bne_iff_ne.mpr c8
     by_cases c10:a0=7
     ·rw [if_pos c10] at H;have c10b0:(a0 == 7)=true:=beq_iff_eq.mpr c10;have c10b1:(a0 != 7)=false:=bne_eq_false_iff_eq.mpr c10;clear c10;replace H:=ob H;obtain ⟨A1,A110,H⟩:=H;replace H:(some A1)=some r:=H;have A11:=aA.mk A110;clear A110;obtain rfl:=os H
      go_enter Try.func141,Try.ntmps141
      go_wp2_with (first|((with_reducible refine aD (f:=167) rfl ?_);refine aI (some 36) rfl rfl Try.func167 (by kernel_rfl) rfl #[.int .i64 a1,.int .i64 a2,.int .i64 a3] rfl ml ?_;(with_reducible refine (kH.calls a1 a2 a3 A1 _ A11.out).mono ?_);rintro e w' ⟨rfl,⟨nd,rfl⟩⟩;refine ⟨_,rfl,?_⟩));go_ret;exact ⟨e1,dn⟩
     ·rw [if_neg c10] at H;have c10b0:(a0 == 7)=false:=beq_eq_false_iff_ne.mpr c10;have c10b1:(a0 != 7)=true:=bne_iff_ne.mpr c10
      by_cases c12:a0=8
      ·rw [if_pos c12] at H;have c12b0:(a0 == 8)=true:=beq_iff_eq.mpr c12;have c12b1:(a0 != 8)=false:=bne_eq_false_iff_eq.mpr c12;clear c12;replace H:=ob H;obtain ⟨A2,A130,H⟩:=H;replace H:(some A2)=some r:=H;have A13:=aA.mk A130;clear A130;obtain rfl:=os H
       go_enter Try.func141,Try.ntmps141
       go_wp2_with (first|((with_reducible refine aD (f:=168) rfl ?_);refine aI (some 42) rfl rfl Try.func168 (by kernel_rfl) rfl #[.int .i64 a1,.int .i64 a2,.int .i64 a3] rfl ml ?_;(with_reducible refine (kD.calls a1 a2 a3 A2 _ A13.out).mono ?_);rintro e w' ⟨rfl,⟨nd,rfl⟩⟩;refine ⟨_,rfl,?_⟩));go_ret;exact ⟨e1,dn⟩
      ·rw [if_neg c12] at H;have c12b0:(a0 == 8)=false:=beq_eq_false_iff_ne.mpr c12;have c12b1:(a0 != 8)=true:=bne_iff_ne.mpr c12
       by_cases c14:a0=9
       ·rw [if_pos c14] at H;have c14b0:(a0 == 9)=true:=beq_iff_eq.mpr c14;have c14b1:(a0 != 9)=false:=bne_eq_false_iff_eq.mpr c14;clear c14;replace H:=ob H;obtain ⟨A3,A150,H⟩:=H;replace H:(some A3)=some r:=H;have A15:=aA.mk A150;clear A150;obtain rfl:=os H
        go_enter Try.func141,Try.ntmps141
        go_wp2_with (first|((with_reducible refine aD (f:=169) rfl ?_);refine aI (some 48) rfl rfl Try.func169 (by kernel_rfl) rfl #[.int .i64 a1,.int .i64 a2,.int .i64 a3] rfl ml ?_;(with_reducible refine (kC.calls a1 a2 a3 A3 _ A15.out).mono ?_);rintro e w' ⟨rfl,⟨nd,rfl⟩⟩;refine ⟨_,rfl,?_⟩));go_ret;exact ⟨e1,dn⟩
       ·rw [if_neg c14] at H;have c14b0:(a0 == 9)=false:=beq_eq_false_iff_ne.mpr c14;have c14b1:(a0 != 9)=true:=bne_iff_ne.mpr c14
        by_cases c16:a0=10
        ·rw [if_pos c16] at H;have c16b0:(a0 == 10)=true:=beq_iff_eq.mpr c16;have c16b1:(a0 != 10)=false:=bne_eq_false_iff_eq.mpr c16;clear c16;replace H:=ob H;obtain ⟨A4,A170,H⟩:=H;replace H:(some A4)=some r:=H;have A17:=aA.mk A170;clear A170;obtain rfl:=os H
         go_enter Try.func141,Try.ntmps141
         go_wp2_with (first|((with_reducible refine aD (f:=170) rfl ?_);refine aI (some 54) rfl rfl Try.func170 (by kernel_rfl) rfl #[.int .i64 a1,.int .i64 a2,.int .i64 a3] rfl ml ?_;(with_reducible refine (kE.calls a1 a2 a3 A4 _ A17.out).mono ?_);rintro e w' ⟨rfl,⟨nd,rfl⟩⟩;refine ⟨_,rfl,?_⟩));go_ret;exact ⟨e1,dn⟩
        ·rw [if_neg c16] at H;have c16b0:(a0 == 10)=false:=beq_eq_false_iff_ne.mpr c16;have c16b1:(a0 != 10)=true:=bne_iff_ne.mpr c16
         by_cases c18:a0=11
         ·rw [if_pos c18] at H;have c18b0:(a0 == 11)=true:=beq_iff_eq.mpr c18;have c18b1:(a0 != 11)=false:=bne_eq_false_iff_eq.mpr c18;clear c18;replace H:=ob H;obtain ⟨A5,A190,H⟩:=H;replace H:(some A5)=some r:=H;have A19:=aA.mk A190;clear A190;obtain rfl:=os H
          go_enter Try.func141,Try.ntmps141
          go_wp2_with (first|((with_reducible refine aD (f:=171) rfl ?_);refine aI (some 60) rfl rfl Try.func171 (by kernel_rfl) rfl #[.int .i64 a1,.int .i64 a2,.int .i64 a3] rfl ml ?_;(with_reducible refine (kF.calls a1 a2 a3 A5 _ A19.out).mono ?_);rintro e w' ⟨rfl,⟨nd,rfl⟩⟩;refine ⟨_,rfl,?_⟩));go_ret;exact ⟨e1,dn⟩
         ·rw [if_neg c18] at H;have c18b0:(a0 == 11)=false:=beq_eq_false_iff_ne.mpr c18;have c18b1:(a0 != 11)=true:=bne_iff_ne.mpr c18;replace H:=ob H;obtain ⟨A6,A200,H⟩:=H;replace H:(some A6)=some r:=H;have A20:=aA.mk A200;clear A200;obtain rfl:=os H
          go_enter Try.func141,Try.ntmps141
          go_wp2_with (first|((with_reducible refine aD (f:=172) rfl ?_);refine aI (some 64) rfl rfl Try.func172 (by kernel_rfl) rfl #[.int .i64 a1,.int .i64 a2,.int .i64 a3] rfl ml ?_;(with_reducible refine (kG.calls a1 a2 a3 A6 _ A20.out).mono ?_);rintro e w' ⟨rfl,⟨nd,rfl⟩⟩;refine ⟨_,rfl,?_⟩));go_ret;exact ⟨e1,dn⟩
end Go.Proofs.Ythipjoioicmcnaa.G
