-- texts of this session, merged by a program of it (wip/gen/pack.py)
import Derived.Test.YthipjoioicmcnaaKFnDecide1
import Derived.Test.YthipjoioicmcnaaKFnDecide19
import Derived.Test.YthipjoioicmcnaaKFnDecide2
import Derived.Test.YthipjoioicmcnaaKFnDecide3
set_option linter.unusedVariables false
set_option linter.unusedSimpArgs false
set_option maxHeartbeats 80000000
set_option maxRecDepth 100000
namespace Go.Proofs.Ythipjoioicmcnaa.G
open Go.RowKit Go.Proofs.YthipjoioicmcnaaW.PrintWords Go.Proofs.YthipjoioicmcnaaW.PrintLast Go.Proofs.YthipjoioicmcnaaW.PrintMore Go.Proofs.Ythipjoioicmcnaa.Sh
attribute [local go_sem] dP dR eA eB dB dC dQ dS
mutual
def bE.j0:Nat→List (eS)→List (bL)→Int→Bool→Option (Int × ByteArray × Bool)
 | 0,_,_,_,_=>none
 | k + 1,x0,x1,x6,x21=>if x21=true then (some (0,(⟨#[]⟩:ByteArray),false)) else ((cN.f k).bind fun Ae=>(bE.l0 k x0 x1 x6 (([]:List Int)) Ae 0))
def bE.l0:Nat→List (eS)→List (bL)→Int→List Int→List Int→Int→Option (Int × ByteArray × Bool)
 | 0,_,_,_,_,_,_=>none
 | k + 1,x0,x1,x6,x7,x8,x9=>(aH.f k x6).bind fun Ah=>(if x9 < Ah then (bE.l1 k x0 x1 x6 x7 x8 x9 x6 0) else (some (x6,strOfNums x7,true)))
def bE.l1:Nat→List (eS)→List (bL)→Int→List Int→List Int→Int→Int→Int→Option (Int × ByteArray × Bool)
 | 0,_,_,_,_,_,_,_,_=>none
 | k + 1,x0,x1,x6,x7,x8,x9,x10,x11=>if x11 < (x0.length:Int) then (if 0≤x11 then ((aH.f k (wrap64 (x10 - ((aV x0 x11).f2)))).bind fun Af=>(if Af=0 then (none) else ((aH.f k ((aV x0 x11).f2)).bind fun Ag=>(if Ag=0 then (none) else (if 0≤((aV x0 x11).f1) then (if ((aV x0 x11).f1) < (x8.length:Int) then (bE.l1 k x0 x1 x6 x7 (x8.set (((aV x0 x11).f1):Int).toNat (Int.tmod (wrap64 (Int.tdiv x9 Af)) Ag)) x9 (wrap64 (x10 - ((aV x0 x11).f2))) (wrap64 (x11 + 1))) else (none)) else (none)))))) else (none)) else ((iU.f k x1 x8 (wrap64 ((x1.length:Int) - 1))).bind fun Aj=>(if x7.length < 140737488355328 then (bE.l0 k x0 x1 x6 (x7 ++ [(wrap64 (48 + Aj)) % 256]) x8 (wrap64 (x9 + 1))) else (none)))
end
def bE.f (k:Nat) (l0:List (eS)) (l1:List (bL)):Option (Int × ByteArray × Bool):=(cU.f k l0).bind fun A5=>((bV.f k l0 l1).bind fun Ak=>(if Ak=true then (bE.j0 k l0 l1 A5 (decide (A5 > 12))) else (bE.j0 k l0 l1 A5 true)))
def bE.T14:Bool × List (List Nat × List Nat):=(true,[([],[]),([],[]),([],[]),([1,2],[1,2]),([3],[3]),([4],[4]),([],[]),([],[]),([7],[7]),([6,8],[6,8]),([],[]),([],[]),([10,11],[10,11]),([12],[12]),([13],[13]),([14,8],[14]),([9,15],[9,15]),([0,5,0,1,2,3,4,5,6,7,8,9,10,11,12,13,14,15,16],[0,5]),([17,16,15,0,1,2,3,4,5,6,7,8,9,10,11,12,13,14,15,16],[16,17])])
def bE.B14:List Nat:=[0,0,0,6,14,30,0,0,128,448,0,0,3072,7168,15360,32128,65472,131071,262143]
theorem bE.tab14:iM .any (oN Try.f34 14)=bE.T14:=by kernel_rfl
theorem bE.bits14:hY bE.T14.2 bE.B14=true:=by kernel_rfl
theorem bE.calls (k:Nat) (A0:Option Addr) (c0:Nat) (l0:List (eS)) (A1:Option Addr) (c1:Nat) (l1:List (bL)) (r1:Int) (r2:ByteArray) (r3:Bool) (w:World) (hr0:Kd.C lU w A0 l0.length l0) (hc0:l0.length≤c0) (hr1:Kd.C fL w A1 l1.length l1) (hc1:l1.length≤c1) (h:bE.f k l0 l1=some (r1,r2,r3)) :
  Calls Try.prog 34 #[.slice A0 l0.length c0,.slice A1 l1.length c1] w fun e w'=>e = .returned (.tuple #[.agg #[.int .i64 r1,.string r2],.bool r3])∧Below w.heap.size w w':=by
 have hu26:=Try.underlying26;have HR0:=aA.mk hr0;have HC0:=aA.mk hc0;clear hr0 hc0;have HR1:=aA.mk hr1;have HC1:=aA.mk hc1;clear hr1 hc1;have HB:=aA.mk (Below.refl w.heap.size w);have H:((cU.f k l0).bind fun A5=>((bV.f k l0 l1).bind fun Ak=>(if Ak=true then (bE.j0 k l0 l1 A5 (decide (A5 > 12))) else (bE.j0 k l0 l1 A5 true))))=some (r1,r2,r3):=h;clear h;replace H:=ob H;obtain ⟨A5,A30,H⟩:=H
 try dsimp only at H
 have A3:=aA.mk A30;clear A30;have HC4:=aA.mk H;clear H
 go_enter Try.func34,Try.ntmps34
 go_upto_region 2 with (first|((with_reducible refine bF (N:=4) rfl ?_);refine bx (N:=4) (cs:=#[.int .i64 0,.string (⟨#[]⟩:ByteArray)]) (t:=26) ?_;intro A7 hg w5 hbox hb;have A4:=aA.mk (hbox);have GW101:=aA.mk ((by rw [hg];exact (aG (tb HB)):w.heap.size≤A7));have An:=aA.mk ((by rw [hg];exact (aG (tb HB)):w.heap.size≤A7));replace HB:=aA.mk (aE (tb HB) hb);clear hb hbox hg)|((with_reducible refine aD (f:=80) rfl ?_);refine aI (some 13) rfl rfl Try.func80 (by kernel_rfl) rfl #[.slice A0 l0.length c0] rfl ml ?_;(with_reducible refine (cU.calls k _ _ l0 A5 _ ?side1 ?side2 A3.out).mono ?_);(case side1=>exact cw (Kd.C_below HR0.out HB.out));(case side2=>exact HC0.out);rintro e w' ⟨rfl,⟨nd,rfl⟩⟩;refine ⟨_,rfl,?_⟩))
 (try simp only [Act.put,List.setIfInBounds_toArray,List.set_cons_zero,List.set_cons_succ])
 go_cut [21] (fun v21 wc=>∃ (kq:Nat) (Ai:Bool),v21 = .bool Ai∧aA (bE.j0 kq l0 l1 A5 Ai=some (r1,r2,r3))∧aA (kq≤k)∧aA (wc.heap[A7]? = some (.cells #[.int .i64 0,.string (⟨#[]⟩:ByteArray)] 26 (0,0)))∧aA (Below w.heap.size w wc))
 case first =>
  have H:=HC4.out;clear HC4;replace H:=ob H;obtain ⟨Ak,A60,H⟩:=H;replace H:(if Ak=true then (bE.j0 k l0 l1 A5 (decide (A5 > 12))) else (bE.j0 k l0 l1 A5 true))=some (r1,r2,r3):=H;have A6:=aA.mk A60;clear A60
  by_cases c7:Ak=true
  ·subst c7
   have H1:(bE.j0 k l0 l1 A5 (decide (A5 > 12)))=some (r1,r2,r3):=by rw [if_pos rfl] at H;exact H
   clear H;have H:=H1;clear H1;have H':=aA.mk H;clear H;go_wp2_with (first|((with_reducible refine aD (f:=81) rfl ?_);refine aI (some 16) rfl rfl Try.func81 (by kernel_rfl) rfl #[.slice A0 l0.length c0,.slice A1 l1.length c1] rfl ml ?_;(with_reducible refine (bV.calls k _ _ l0 _ _ l1 true _ ?side1 ?side2 ?side3 ?side4 A6.out).mono ?_);(case side1=>exact cw (Kd.C_below HR0.out HB.out));(case side2=>exact HC0.out);(case side3=>exact cw (Kd.C_below HR1.out HB.out));(case side4=>exact HC1.out);rintro e w8 ⟨rfl,hb⟩;refine ⟨_,rfl,?_⟩;replace A4:=aA.mk (aM (g:=A7) (o := .cells #[.int .i64 0,.string (⟨#[]⟩:ByteArray)] 26 (0,0)) (dr A4) hb);replace HB:=aA.mk (aE (tb HB) hb);(try clear hb);(try clear hb2);(try clear hk);(try clear hi)));go_meet
   case rel=>exact ⟨_,(decide (A5 > 12)),(by first|rfl|(simp;done)|(simp [*];done)),H',⟨by first|omega|exact Nat.le_refl _⟩,⟨dr A4⟩,⟨by exact tb HB⟩⟩
  ·replace c7:=Bool.eq_false_iff.mpr c7;subst c7
   have H1:(bE.j0 k l0 l1 A5 true)=some (r1,r2,r3):=by rw [if_neg (show ¬ (false=true) by decide)] at H;exact H
   clear H;have H:=H1;clear H1;have H':=aA.mk H;clear H;go_wp2_with (first|((with_reducible refine aD (f:=81) rfl ?_);refine aI (some 16) rfl rfl Try.func81 (by kernel_rfl) rfl #[.slice A0 l0.length c0,.slice A1 l1.length c1] rfl ml ?_;(with_reducible refine (bV.calls k _ _ l0 _ _ l1 false _ ?side1 ?side2 ?side3 ?side4 A6.out).mono ?_);(case side1=>exact cw (Kd.C_below HR0.out HB.out));(case side2=>exact HC0.out);(case side3=>exact cw (Kd.C_below HR1.out HB.out));(case side4=>exact HC1.out);rintro e w9 ⟨rfl,hb⟩;refine ⟨_,rfl,?_⟩;replace A4:=aA.mk (aM (g:=A7) (o := .cells #[.int .i64 0,.string (⟨#[]⟩:ByteArray)] 26 (0,0)) (dr A4) hb);replace HB:=aA.mk (aE (tb HB) hb);(try clear hb);(try clear hb2);(try clear hk);(try clear hi)));go_meet
   case rel=>exact ⟨_,(true),(by first|rfl|(simp;done)|(simp [*];done)),H',⟨by first|omega|exact Nat.le_refl _⟩,⟨dr A4⟩,⟨by exact tb HB⟩⟩
 case rest =>
  clear HC4;obtain ⟨kq,Ai,rfl,HA,HJ3,A4,HB⟩:=hcut
  cases kq with
  | zero=>exact absurd HA.out (by simp [bE.j0])
  | succ kj3 =>
   have H:=HA.out;clear HA;simp only [bE.j0] at H
   by_cases c10:Ai=true
   ·subst c10
    have H1:(some (0,(⟨#[]⟩:ByteArray),false))=some (r1,r2,r3):=by rw [if_pos rfl] at H;exact H
    clear H;have H:=H1;clear H1;simp only [Option.some.injEq,Prod.mk.injEq] at H;obtain ⟨rfl,rfl,rfl⟩:=H;have hcz11__:=gP A4;have hfz11__:=f_ A4;go_wp2;refine bodyPost_ret (iT rfl _ _ A7 26 #[.int .i64 0,.string (⟨#[]⟩:ByteArray)] (0,0) _ rfl (by (with_reducible repeat (first|refine aW ?_ _|refine aU ?_|refine aX ?_ _));refine bU (cs:=#[.int .i64 0,.string (⟨#[]⟩:ByteArray)]) ?_ 1 _ rfl;(with_reducible repeat (first|refine aW ?_ _|refine aU ?_|refine aX ?_ _));refine bU (cs:=#[.int .i64 0,.string (⟨#[]⟩:ByteArray)]) ?_ 0 _ rfl;(with_reducible repeat (first|refine aW ?_ _|refine aU ?_|refine aX ?_ _));exact A4.out) Try.underlying26 rfl (by kernel_rfl)) rfl ?_;exact ⟨er,tb HB⟩
   ·replace c10:=Bool.eq_false_iff.mpr c10;subst c10
    have H1:((cN.f kj3).bind fun Ae=>(bE.l0 kj3 l0 l1 A5 (([]:List Int)) Ae 0))=some (r1,r2,r3):=by rw [if_neg (show ¬ (false=true) by decide)] at H;exact H
    clear H;have H:=H1;clear H1;obtain ⟨y104,hy104⟩:∃ y_:List Int,y_=(([]:List Int)):=⟨_,rfl⟩;replace H:((cN.f kj3).bind fun Ae=>(bE.l0 kj3 l0 l1 A5 y104 Ae 0))=some (r1,r2,r3):=gQ hy104 H;have Ny104:=aA.mk hy104;clear hy104;replace H:=ob H;obtain ⟨Ae,A120,H⟩:=H;replace H:(bE.l0 kj3 l0 l1 A5 y104 Ae 0)=some (r1,r2,r3):=H;have A12:=aA.mk A120;clear A120;have H':=aA.mk H;clear H;go_wp2_with (first|((with_reducible refine bF (N:=23) rfl ?_);refine Kd.R_lit (Kd.int .u8) _ 5 ?hg (N:=23) ?hd (xs:=([]:List Int)) (inner:=[]) (ok:=fun _=>True) (okp:=fun _=>True) ?hr ?hp (fun _ hk=>hk) trivial (Below.refl _ _) (Nat.le_refl _) (by simp) ?_;(case hd=>rfl);(case hg=>rfl);(case hr=>first|(go_simp;done)|(go_simp;rfl));(case hp=>exact (cQ.none _ _));intro v105 w13 ho14 hb hg_ hnew_;clear hg_ hnew_;(first|rw [← Ny104.out] at ho14|(simp only [Int.reduceToNat] at ho14;rw [← Ny104.out] at ho14));have Am:=aA.mk (Kd.R_lower ho14 (aG (tb HB)));replace A4:=aA.mk (aM (g:=A7) (o := .cells #[.int .i64 0,.string (⟨#[]⟩:ByteArray)] 26 (0,0)) (dr A4) hb);replace HB:=aA.mk (aE (tb HB) hb);clear hb ho14)|((with_reducible refine aD (f:=82) rfl ?_);refine aI (some 24) rfl rfl Try.func82 (by kernel_rfl) rfl #[] rfl ml ?_;(with_reducible refine (cN.calls kj3  Ae _ A12.out).mono ?_);rintro e w15 ⟨v108,rfl,ho0,hb⟩;refine ⟨_,rfl,?_⟩;replace Am:=aA.mk (Kd.R_below (ra Am) hb);have Ao:=aA.mk (Kd.R_lower ho0 (aG (tb HB)));replace A4:=aA.mk (aM (g:=A7) (o := .cells #[.int .i64 0,.string (⟨#[]⟩:ByteArray)] 26 (0,0)) (dr A4) hb);replace HB:=aA.mk (aE (tb HB) hb);(try clear hb);(try clear hb2);(try clear hk);(try clear hi);(try clear ho0)))
    go_loopg [7,9] kj3 (fun kq v7 v9 w'=>∃ (Ab:List Int) (Al:List Int) (Aa:Int),v9 = .int .i64 Aa∧aA (bE.l0 kq l0 l1 A5 Ab Al Aa=some (r1,r2,r3))∧aA (kq≤kj3)∧aA (Kd.R (Kd.int .u8) 5 w' w.heap.size (fun _=>True) v7 Ab)∧aA (Kd.R (Kd.int .i64) 3 w' w.heap.size (fun _=>True) v108 Al)∧aA (w'.heap[A7]? = some (.cells #[.int .i64 0,.string (⟨#[]⟩:ByteArray)] 26 (0,0)))∧aA (Below w.heap.size w w'))
    case atStart=>exact ⟨(y104),(Ae),(0),(by first|rfl|(simp;done)|(simp [*];done)),H',⟨Nat.le_refl _⟩,⟨ra Am⟩,⟨ra Ao⟩,⟨dr A4⟩,⟨by exact tb HB⟩⟩
    case round =>
     clear H';obtain ⟨Ab,Al,Aa,rfl,HA,HK2,A9,A8,A4,HB⟩:=hrel
     cases gk with
     | zero=>exact absurd HA.out (by simp [bE.l0])
     | succ k2 =>
      have H:=HA.out;clear HA;simp only [bE.l0] at H;replace H:=ob H;obtain ⟨Ah,A160,H⟩:=H;replace H:(if Aa < Ah then (bE.l1 k2 l0 l1 A5 Ab Al Aa A5 0) else (some (A5,strOfNums Ab,true)))=some (r1,r2,r3):=H;have A16:=aA.mk A160;clear A160
      by_cases c17:Aa < Ah
      ·rw [if_pos c17] at H;have c17b0:decide (Aa < Ah)=true:=decide_eq_true c17;clear c17;have H':=aA.mk H;clear H;go_wp2_with (first|((with_reducible refine aD (f:=70) rfl ?_);refine aI (some 27) rfl rfl Try.func70 (by kernel_rfl) rfl #[.int .i64 A5] rfl ml ?_;(with_reducible refine (aH.calls k2 A5 Ah _ A16.out).mono ?_);rintro e w' ⟨rfl,⟨nd,rfl⟩⟩;refine ⟨_,rfl,?_⟩))
       go_loopg [10,11] k2 (fun kq v10 v11 w'=>∃ (Ac:List Int) (Ad:Int) (A2:Int),v10 = .int .i64 Ad∧v11 = .int .i64 A2∧aA (bE.l1 kq l0 l1 A5 Ab Ac Aa Ad A2=some (r1,r2,r3))∧aA (kq≤k2)∧aA (Kd.R (Kd.int .u8) 5 w' w.heap.size (fun _=>True) u7 Ab)∧aA (Kd.R (Kd.int .i64) 3 w' w.heap.size (fun _=>True) v108 Ac)∧aA (w'.heap[A7]? = some (.cells #[.int .i64 0,.string (⟨#[]⟩:ByteArray)] 26 (0,0)))∧aA (Below w.heap.size w w'))
       case atStart=>exact ⟨(Al),(A5),(0),(by first|rfl|(simp;done)|(simp [*];done)),(by first|rfl|(simp;done)|(simp [*];done)),H',⟨Nat.le_refl _⟩,⟨ra A9⟩,⟨ra A8⟩,⟨dr A4⟩,⟨by exact tb HB⟩⟩
       case round =>
        clear H';obtain ⟨Ac,Ad,A2,rfl,rfl,HA,HK3,A9,A8,A4,HB⟩:=hrel
        cases gk with
        | zero=>exact absurd HA.out (by simp [bE.l1])
        | succ k3 =>
         have H:=HA.out;clear HA;simp only [bE.l1] at H
         by_cases c18:A2 < (l0.length:Int)
         ·rw [if_pos c18] at H;have c18b0:decide (A2 < (l0.length:Int))=true:=decide_eq_true c18;clear c18
          by_cases c19:0≤A2
          ·rw [if_pos c19] at H;have c19b0:decide (0≤A2)=true:=decide_eq_true c19;clear c19;replace H:=ob H;obtain ⟨Af,A200,H⟩:=H
           try dsimp only at H
           have A20:=aA.mk A200;clear A200
           by_cases c21:Af=0
           ·rw [if_pos c21] at H;exact absurd H (by simp)
           ·rw [if_neg c21] at H;have c21b0:(Af == 0)=false:=beq_eq_false_iff_ne.mpr c21;have c21b1:(Af != 0)=true:=bne_iff_ne.mpr c21;replace H:=ob H;obtain ⟨Ag,A220,H⟩:=H
            try dsimp only at H
            have A22:=aA.mk A220;clear A220
            by_cases c23:Ag=0
            ·rw [if_pos c23] at H;exact absurd H (by simp)
            ·rw [if_neg c23] at H;have c23b0:(Ag == 0)=false:=beq_eq_false_iff_ne.mpr c23;have c23b1:(Ag != 0)=true:=bne_iff_ne.mpr c23
             by_cases c24:0≤((aV l0 A2).f1)
             ·rw [if_pos c24] at H;have c24b0:decide (0≤((aV l0 A2).f1))=true:=decide_eq_true c24;clear c24
              by_cases c25:((aV l0 A2).f1) < (Ac.length:Int)
              ·rw [if_pos c25] at H;have c25b0:decide (((aV l0 A2).f1) < (Ac.length:Int))=true:=decide_eq_true c25;clear c25;obtain ⟨y116,hy116⟩:∃ y_:List Int,y_=(Ac.set (((aV l0 A2).f1):Int).toNat (Int.tmod (wrap64 (Int.tdiv Aa Af)) Ag)):=⟨_,rfl⟩;replace H:(bE.l1 k3 l0 l1 A5 Ab y116 Aa (wrap64 (Ad - ((aV l0 A2).f2))) (wrap64 (A2 + 1)))=some (r1,r2,r3):=gQ hy116 H;have Ny116:=aA.mk hy116;clear hy116;have H':=aA.mk H;clear H;have p111:0≤(A2:Int):=od;have q111:A2 < (l0.length:Int):=od;obtain ⟨ad111,e111,hx111_0,hx111_1,hx111_2⟩:=jA HR0.out A2 p111 q111;cases e111;replace hx111_0:=ct HB hx111_0;replace hx111_1:=ct HB hx111_1;replace hx111_2:=ct HB hx111_2;replace p111:=eq_true p111;replace q111:=eq_true q111
               try go_wp2
               have n0_:=aA.mk (Kd.R_drew A9.out);have n1_:=aA.mk (Kd.R_drew A8.out);have n2_:=aA.mk (aU A4.out);have n3_:=aA.mk (bO HB.out);clear A9;clear A8;clear A4;clear HB;have A9:=n0_;have A8:=n1_;have A4:=n2_;have HB:=n3_;clear n0_ n1_ n2_ n3_;have p112:0≤(A2:Int):=od;have q112:A2 < (l0.length:Int):=od;obtain ⟨ad112,e112,hx112_0,hx112_1,hx112_2⟩:=jA HR0.out A2 p112 q112;have hw112_2:=hx112_2;have hw112_1:=hx112_1;have hw112_0:=hx112_0;obtain rfl:ad111=ad112:=(by injection e112);replace hx112_0:=ct HB hx112_0;replace hx112_1:=ct HB hx112_1;replace hx112_2:=ct HB hx112_2;replace p112:=eq_true p112;replace q112:=eq_true q112;have p114:0≤(A2:Int):=od;have q114:A2 < (l0.length:Int):=od;obtain ⟨ad114,e114,hx114_0,hx114_1,hx114_2⟩:=jA HR0.out A2 p114 q114;have hw114_2:=hx114_2;have hw114_1:=hx114_1;have hw114_0:=hx114_0;obtain rfl:ad111=ad114:=(by injection e114);replace hx114_0:=ct HB hx114_0;replace hx114_1:=ct HB hx114_1;replace hx114_2:=ct HB hx114_2;replace p114:=eq_true p114;replace q114:=eq_true q114;refine fM (n:=19) (S:=fun w'=>w'.cell? (ad111.add ((A2).toNat * 3))=some (.bool ((aV l0 A2).f0))∧w'.cell? ⟨(ad111.add ((A2).toNat * 3)).block,(ad111.add ((A2).toNat * 3)).off + 1,none⟩=some (.int .i64 ((aV l0 A2).f1))∧w'.cell? ⟨(ad111.add ((A2).toNat * 3)).block,(ad111.add ((A2).toNat * 3)).off + 2,none⟩=some (.int .i64 ((aV l0 A2).f2))∧w'.cell? (ad111.add ((A2).toNat * 3))=some (.bool ((aV l0 A2).f0))∧w'.cell? ⟨(ad111.add ((A2).toNat * 3)).block,(ad111.add ((A2).toNat * 3)).off + 1,none⟩=some (.int .i64 ((aV l0 A2).f1))∧w'.cell? ⟨(ad111.add ((A2).toNat * 3)).block,(ad111.add ((A2).toNat * 3)).off + 2,none⟩=some (.int .i64 ((aV l0 A2).f2))) (ds:=[18]) (tf 0 19) (by kernel_rfl) rfl rfl ⟨(ct HB hw112_0 :),(ct HB hw112_1 :),(ct HB hw112_2 :),(ct HB hw114_0 :),(ct HB hw114_1 :),(ct HB hw114_2 :)⟩ (fun hHeld=>?_);refine iJ bE.tab14 bE.bits14 (fun HT_ HW_=>?_);generalize wr.drew=w27 at A9 A8 A4 HB hx112_0 hx112_1 hx112_2 hx114_0 hx114_1 hx114_2 hHeld ⊢;refine hJ HT_ 0 45 (tf 1 18) ?_;refine hJ HT_ 1 46 (tf 2 17) ?_;refine hJ HT_ 2 47 (tf 3 16) ?_;refine hJ HT_ 3 48 (tf 4 15) ?_;refine hJ HT_ 4 49 (tf 5 14) ?_;refine hJ HT_ 6 51 #[true,true,true,true,true,false,true,false,false,false,false,false,false,false,false,false,false,false,false] ?_;refine hJ HT_ 7 52 #[true,true,true,true,true,false,true,true,false,false,false,false,false,false,false,false,false,false,false] ?_;refine hJ HT_ 10 55 #[true,true,true,true,true,false,true,true,false,false,true,false,false,false,false,false,false,false,false] ?_;refine hJ HT_ 11 56 #[true,true,true,true,true,false,true,true,false,false,true,true,false,false,false,false,false,false,false] ?_;refine hJ HT_ 12 57 #[true,true,true,true,true,false,true,true,false,false,true,true,true,false,false,false,false,false,false] ?_;refine hJ HT_ 13 58 #[true,true,true,true,true,false,true,true,false,false,true,true,true,true,false,false,false,false,false] ?_;refine vL HT_ HW_ 5 50 #[true,true,true,true,true,true,true,true,false,false,true,true,true,true,false,false,false,false,false] hHeld ?_;refine vL HT_ HW_ 14 59 #[true,true,true,true,true,true,true,true,false,false,true,true,true,true,true,false,false,false,false] hHeld ?_;refine gC (i:=8) (N:=some 53) #[true,true,true,true,true,true,true,true,true,false,true,true,true,true,true,false,false,false,false] rfl rfl (iD HT_.out (by kernel_rfl)) (by decide) (fun K hK=>?_);refine fQ Try.func70 (by kernel_rfl) rfl #[.int .i64 (wrap64 (Ad - ((aV l0 A2).f2)))] (by rfl) rfl rfl ml ?_
               with_reducible refine (aH.calls k3 (wrap64 (Ad - ((aV l0 A2).f2))) Af _ A20.out).mono ?_
               rintro e w' ⟨rfl,⟨nd,rfl⟩⟩;refine ⟨_,rfl,?_⟩;refine hK.out _ _ ⟨(ct HB hw112_0 :),(ct HB hw112_1 :),(ct HB hw112_2 :),(ct HB hw114_0 :),(ct HB hw114_1 :),(ct HB hw114_2 :)⟩ (fun hHeld=>?_);clear hK K;refine eG (a':=?_) ?_ ?_;rotate_left
               ·show Act.put _ (some 53) _=_
                simp only [Act.put,s1,s2,s3,aJ,aN];rfl
               refine hJ HT_ 9 54 (tf 15 4) ?_;refine gC (i:=15) (N:=some 60) (tf 16 3) rfl rfl (iD HT_.out (by kernel_rfl)) (by decide) (fun K hK=>?_);refine fQ Try.func70 (by kernel_rfl) rfl #[.int .i64 ((aV l0 A2).f2)] (by rfl) rfl rfl ml ?_
               with_reducible refine (aH.calls k3 ((aV l0 A2).f2) Ag _ A22.out).mono ?_
               rintro e w' ⟨rfl,⟨nd,rfl⟩⟩;refine ⟨_,rfl,?_⟩;have p26:0≤(((aV l0 A2).f1):Int):=od;have q26:(((aV l0 A2).f1):Int) < ((Ac.length:Int):Int):=od;obtain ⟨go26,co26,eo26,Ap,gl26,cl26,HG26⟩:=Kd.R_form A8.out (by omega);(first|cases eo26|(injection eo26 with ea_ en_ ec_;(first|subst ea_|(injection ea_ with ea_;subst ea_));subst ec_;clear en_));have GB26:=aA.mk Ap;have GG26:=aA.mk HG26;clear Ap gl26 HG26;obtain ⟨hx26_0,hf26_0⟩:=Kd.R_celln 0 A8.out (((aV l0 A2).f1):Int) p26 q26;replace p26:=eq_true p26;replace q26:=eq_true q26;have HP28:=Kd.R_putn A8.out (((aV l0 A2).f1):Int) (Int.tmod (wrap64 (Int.tdiv Aa Af)) Ag);rw [← Ny116.out] at HP28;have HQ28:=aA.mk HP28;clear HP28;refine hK.out _ _ ⟨(ct HB hw112_0 :),(ct HB hw112_1 :),(ct HB hw112_2 :),(ct HB hw114_0 :),(ct HB hw114_1 :),(ct HB hw114_2 :)⟩ (fun hHeld=>?_);clear hK K;refine eG (a':=?_) ?_ ?_;rotate_left
               ·show Act.put _ (some 60) _=_
                simp only [Act.put,s1,s2,s3,aJ,aN];rfl
               refine hJ HT_ 16 61 (tf 17 2) ?_;refine hJ HT_ 17 62 (tf 18 1) ?_;refine uZ (i:=18) (N:=none) (tf 19 0) rfl rfl (iD HT_.out (by kernel_rfl)) (by decide) (fun K hK=>?_);refine sI (w1:=?_) (by rfl) rfl ?_ ?_;rotate_left
               ·go_simp;rfl
               refine hK.out _ _ ?_;clear hK K;refine iG (jS HT_.out (by kernel_rfl)) ?_
               try go_wp2
               go_roundg k3
               case measure=>have:=HJ3.out;have:=HK2.out;have:=HK3.out;omega
               case rel=>exact ⟨(y116),(wrap64 (Ad - ((aV l0 A2).f2))),(wrap64 (A2 + 1)),(by first|rfl|(simp;done)|(simp [*];done)),(by first|rfl|(simp;done)|(simp [*];done)),H',⟨by have:=HJ3.out;have:=HK2.out;have:=HK3.out;omega⟩,⟨by exact rfs (Kd.R_types A9.out GG26.out (by decide))⟩,⟨ra HQ28⟩,⟨by (with_reducible repeat (first|refine aW ?_ _|refine aU ?_|refine aX ?_ _));refine eL ?_ (by have h_:=Kd.R_ne A8.out A4.out (by decide);intro e_;exact h_ (by rw [e_];rfl)) _;(with_reducible repeat (first|refine aW ?_ _|refine aU ?_|refine aX ?_ _));exact A4.out⟩,⟨by repeat (first|(with_reducible first|exact HB.out|apply bQ|apply bD|apply bO|refine cM ?_ GB26.out|refine cM ?_ An.out)|exact HB.out)⟩⟩
              ·rw [if_neg c25] at H;exact absurd H (by simp)
             ·rw [if_neg c24] at H;exact absurd H (by simp)
          ·rw [if_neg c19] at H;exact absurd H (by simp)
         ·rw [if_neg c18] at H;have c18b0:decide (A2 < (l0.length:Int))=false:=decide_eq_false c18;clear c18;replace H:=ob H;obtain ⟨Aj,A290,H⟩:=H
          try dsimp only at H
          have A29:=aA.mk A290;clear A290
          by_cases c30:Ab.length < 140737488355328
          ·rw [if_pos c30] at H;have LMc30:=aA.mk c30;clear c30;obtain ⟨y118,hy118⟩:∃ y_:List Int,y_=(Ab ++ [(wrap64 (48 + Aj)) % 256]):=⟨_,rfl⟩;replace H:(bE.l0 k3 l0 l1 A5 y118 Ac (wrap64 (Aa + 1)))=some (r1,r2,r3):=gQ hy118 H;have Ny118:=aA.mk hy118;clear hy118;have H':=aA.mk H;clear H;obtain ⟨Ao31,co31,eo31⟩:=Kd.R_slice A8.out;subst eo31;go_wp2_with (first|((with_reducible refine aD (f:=83) rfl ?_);refine aI (some 69) rfl rfl Try.func83 (by kernel_rfl) rfl #[.slice A1 l1.length c1,.slice Ao31 Ac.length co31,.int .i64 (wrap64 ((l1.length:Int) - 1))] rfl ml ?_;(with_reducible refine (iU.calls k3 _ _ l1 _ _ Ac (wrap64 ((l1.length:Int) - 1)) Aj _ ?side1 ?side2 ?side3 ?side4 A29.out).mono ?_);(case side1=>exact cw (Kd.C_below HR1.out HB.out));(case side2=>exact HC1.out);(case side3=>exact cw (Kd.R_reads' A8.out).2.2);(case side4=>exact (Kd.R_reads' A8.out).2.1);rintro e w32 ⟨rfl,hb⟩;refine ⟨_,rfl,?_⟩;replace A9:=aA.mk (Kd.R_below (ra A9) hb);replace A8:=aA.mk (Kd.R_below (ra A8) hb);replace A4:=aA.mk (aM (g:=A7) (o := .cells #[.int .i64 0,.string (⟨#[]⟩:ByteArray)] 26 (0,0)) (dr A4) hb);replace HB:=aA.mk (aE (tb HB) hb);(try clear hb);(try clear hb2);(try clear hk);(try clear hi))|((with_reducible refine cD (b := .append) (xs:=#[.tmp 63,.tmp 72]) rfl ?_);at_builtin;refine Kd.R_append (Kd.int .u8) (w0:=w) w.heap.size rfl (.tmp 63) (.tmp 72) 22 5 (.int .u8 0) 1 rfl Try.underlying22 pS rfl (by decide) (by omega) u7 Ab ((wrap64 (48 + Aj)) % 256) [.int .u8 ((wrap64 (48 + Aj)) % 256)] (fun _=>True) (fun _=>False) rfl rfl ?aP (fun _ hk=>hk.elim) ?aF ?aO ?aB ?aS ?aL ?_;(case aP=>exact rfl);(case aB=>exact (tb HB));(case aF=>exact (fun _ _=>trivial));(case aO=>exact (ra A9));(case aS=>exact (aG (tb HB)));(case aL=>have:=LMc30.out;omega);intro v119 w33 ho hb hg hat;rw [← Ny118.out] at ho;replace A8:=aA.mk (Kd.R_over' (ra A8) (Kd.R_typed (ra A9)) (by decide) hg);replace A4:=aA.mk (eW (g:=A7) (o := .cells #[.int .i64 0,.string (⟨#[]⟩:ByteArray)] 26 (0,0)) (dr A4) hg (Kd.R_ne A9.out A4.out (by decide)));replace HB:=aA.mk (hb);have Aq:=aA.mk (ho);clear A9;clear ho hb hg hat));go_roundg k3
           case measure=>have:=HJ3.out;have:=HK2.out;have:=HK3.out;omega
           case rel=>exact ⟨(y118),(Ac),(wrap64 (Aa + 1)),(by first|rfl|(simp;done)|(simp [*];done)),H',⟨by have:=HJ3.out;have:=HK2.out;have:=HK3.out;omega⟩,⟨ra Aq⟩,⟨ra A8⟩,⟨dr A4⟩,⟨by exact tb HB⟩⟩
          ·rw [if_neg c30] at H;exact absurd H (by simp)
      ·rw [if_neg c17] at H;have c17b0:decide (Aa < Ah)=false:=decide_eq_false c17;clear c17;simp only [Option.some.injEq,Prod.mk.injEq] at H;obtain ⟨rfl,rfl,rfl⟩:=H;go_wp2_with (first|((with_reducible refine aD (f:=70) rfl ?_);refine aI (some 27) rfl rfl Try.func70 (by kernel_rfl) rfl #[.int .i64 A5] rfl ml ?_;(with_reducible refine (aH.calls k2 A5 Ah _ A16.out).mono ?_);rintro e w' ⟨rfl,⟨nd,rfl⟩⟩;refine ⟨_,rfl,?_⟩;(try (rw [fS wr];generalize hq_:World.drewN wr _=wr;have n0_:aA (Kd.R (Kd.int .u8) 5 wr w.heap.size (fun _=>True) u7 Ab):=⟨by rw [← hq_];exact (ra A9)⟩;have n1_:aA (Kd.R (Kd.int .i64) 3 wr w.heap.size (fun _=>True) v108 Al):=⟨by rw [← hq_];exact (ra A8)⟩;have n2_:aA (wr.heap[A7]? = some (.cells #[.int .i64 0,.string (⟨#[]⟩:ByteArray)] 26 (0,0))):=⟨by rw [← hq_];exact (dr A4)⟩;have n3_:aA (Below w.heap.size w wr):=⟨by rw [← hq_];exact (tb HB)⟩;clear A9 A8 A4 HB hq_;have A9:=n0_;have A8:=n1_;have A4:=n2_;have HB:=n3_;clear n0_ n1_ n2_ n3_));have hcv34:=kX (P:=Try.prog) Try.underlying22 Try.underlying5 Try.underlying9 (Kd.own_of_R A9.out);have hcz35__:=gP A4;have hfz35__:=f_ A4));refine bodyPost_ret (iT rfl _ _ A7 26 #[.int .i64 A5,.string (strOfNums Ab)] (0,0) _ rfl (by (with_reducible repeat (first|refine aW ?_ _|refine aU ?_|refine aX ?_ _));refine bU (cs:=#[.int .i64 A5,.string (⟨#[]⟩:ByteArray)]) ?_ 1 _ rfl;(with_reducible repeat (first|refine aW ?_ _|refine aU ?_|refine aX ?_ _));refine bU (cs:=#[.int .i64 0,.string (⟨#[]⟩:ByteArray)]) ?_ 0 _ rfl;(with_reducible repeat (first|refine aW ?_ _|refine aU ?_|refine aX ?_ _));exact A4.out) Try.underlying26 rfl (by kernel_rfl)) rfl ?_;exact ⟨er,tb HB⟩
end Go.Proofs.Ythipjoioicmcnaa.G
