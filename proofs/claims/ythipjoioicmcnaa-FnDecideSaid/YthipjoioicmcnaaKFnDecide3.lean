-- texts of this session, merged by a program of it (wip/gen/pack.py)
import Derived.Test.YthipjoioicmcnaaKFnDecide1
import Derived.Test.YthipjoioicmcnaaKFnDecide2
set_option linter.unusedVariables false
set_option linter.unusedSimpArgs false
set_option maxHeartbeats 80000000
set_option maxRecDepth 100000
namespace Go.Proofs.Ythipjoioicmcnaa.G
open Go.RowKit Go.Proofs.YthipjoioicmcnaaW.PrintWords Go.Proofs.YthipjoioicmcnaaW.PrintLast Go.Proofs.YthipjoioicmcnaaW.PrintMore Go.Proofs.Ythipjoioicmcnaa.Sh
attribute [local go_sem] dP dR eA eB dB dC dQ dS
def cG.j0:Nat→Bool→Int→Int→Int→Int→Int→Int→Option (List Int)
 | 0,_,_,_,_,_,_,_=>none
 | k + 1,x3,x102000,x102001,x102002,x102003,x102004,x102005=>if x3=true then (some (([x102003]:List Int))) else ((bB.f x102000 3 16).bind fun A8=>(if A8=true then (some (([x102003,x102004]:List Int))) else (if x102000=18 then (some (([x102003,x102004,x102005]:List Int))) else (some (([]:List Int))))))
def cG.f (k:Nat) (A0:Int) (A5:Int) (A6:Int) (A2:Int) (A3:Int) (A4:Int):Option (List Int):=if A0=2 then (cG.j0 k true A0 A5 A6 A2 A3 A4) else (if A0=17 then (cG.j0 k true A0 A5 A6 A2 A3 A4) else (if A0=19 then (cG.j0 k true A0 A5 A6 A2 A3 A4) else (cG.j0 k (A0 == 20) A0 A5 A6 A2 A3 A4)))
theorem cG.calls (k:Nat) (A0:Int) (A5:Int) (A6:Int) (A2:Int) (A3:Int) (A4:Int) (r:List Int) (w:World) (h:cG.f k A0 A5 A6 A2 A3 A4=some r) :
  Calls Try.prog 99 #[.agg #[.int .i64 A0,.int .i64 A5,.int .i64 A6,.int .i64 A2,.int .i64 A3,.int .i64 A4]] w fun e w'=>∃ v0_:Value,e = .returned (v0_)∧Kd.R (Kd.int .i64) 3 w' w.heap.size (fun _=>True) v0_ r∧Below w.heap.size w w':=by
 have hu99:=Try.underlying99;have HB:=aA.mk (Below.refl w.heap.size w);have H:(if A0=2 then (cG.j0 k true A0 A5 A6 A2 A3 A4) else (if A0=17 then (cG.j0 k true A0 A5 A6 A2 A3 A4) else (if A0=19 then (cG.j0 k true A0 A5 A6 A2 A3 A4) else (cG.j0 k (A0 == 20) A0 A5 A6 A2 A3 A4))))=some r:=h;clear h;have HC2:=aA.mk H;clear H
 go_enter Try.func99,Try.ntmps99
 go_upto_region 1 with (first|((with_reducible refine bF (N:=1) rfl ?_);refine bx (N:=1) (cs:=#[.int .i64 A0,.int .i64 A5,.int .i64 A6,.int .i64 A2,.int .i64 A3,.int .i64 A4]) (t:=99) ?_;intro A7 hg w3 hbox hb;have A1:=aA.mk (hbox);have GW101:=aA.mk ((by rw [hg];exact (aG (tb HB)):w.heap.size≤A7));have GE101:=aA.mk ((by rw [hg];exact (aG (tb HB)):w.heap.size≤A7));replace HB:=aA.mk (aE (tb HB) hb);clear hb hbox hg))
 (try simp only [Act.put,List.setIfInBounds_toArray,List.set_cons_zero,List.set_cons_succ])
 go_cut [3] (fun v3 wc=>∃ (kq:Nat) (A9:Bool),v3 = .bool A9∧aA (cG.j0 kq A9 A0 A5 A6 A2 A3 A4=some r)∧aA (kq≤k)∧aA (wc.heap[A7]? = some (.cells #[.int .i64 A0,.int .i64 A5,.int .i64 A6,.int .i64 A2,.int .i64 A3,.int .i64 A4] 99 (0,0)))∧aA (Below w.heap.size w wc))
 case first =>
  have H:=HC2.out;clear HC2
  by_cases c4:A0=2
  ·rw [if_pos c4] at H;have c4b0:(A0 == 2)=true:=beq_iff_eq.mpr c4;have c4b1:(A0 != 2)=false:=bne_eq_false_iff_eq.mpr c4;clear c4;(first|rw [c4b0]|(simp only [aJ,aN];rw [c4b0])|skip);have H':=aA.mk H;clear H;have hcz5__:=gB A1;have hfz5__:=f_ A1;go_wp2;go_meet
   case rel=>exact ⟨_,(true),(by first|rfl|(simp;done)|(simp [*];done)),H',⟨by first|omega|exact Nat.le_refl _⟩,⟨dr A1⟩,⟨by exact tb HB⟩⟩
  ·rw [if_neg c4] at H;have c4b0:(A0 == 2)=false:=beq_eq_false_iff_ne.mpr c4;have c4b1:(A0 != 2)=true:=bne_iff_ne.mpr c4;(first|rw [c4b0]|(simp only [aJ,aN];rw [c4b0])|skip)
   by_cases c6:A0=17
   ·rw [if_pos c6] at H;have c6b0:(A0 == 17)=true:=beq_iff_eq.mpr c6;have c6b1:(A0 != 17)=false:=bne_eq_false_iff_eq.mpr c6;clear c6;have H':=aA.mk H;clear H;have hcz7__:=gB A1;have hfz7__:=f_ A1;go_wp2;go_meet
    case rel=>exact ⟨_,(true),(by first|rfl|(simp;done)|(simp [*];done)),H',⟨by first|omega|exact Nat.le_refl _⟩,⟨dr A1⟩,⟨by exact tb HB⟩⟩
   ·rw [if_neg c6] at H;have c6b0:(A0 == 17)=false:=beq_eq_false_iff_ne.mpr c6;have c6b1:(A0 != 17)=true:=bne_iff_ne.mpr c6
    by_cases c8:A0=19
    ·rw [if_pos c8] at H;have c8b0:(A0 == 19)=true:=beq_iff_eq.mpr c8;have c8b1:(A0 != 19)=false:=bne_eq_false_iff_eq.mpr c8;clear c8;have H':=aA.mk H;clear H;have hcz9__:=gB A1;have hfz9__:=f_ A1;go_wp2;go_meet
     case rel=>exact ⟨_,(true),(by first|rfl|(simp;done)|(simp [*];done)),H',⟨by first|omega|exact Nat.le_refl _⟩,⟨dr A1⟩,⟨by exact tb HB⟩⟩
    ·rw [if_neg c8] at H;have c8b0:(A0 == 19)=false:=beq_eq_false_iff_ne.mpr c8;have c8b1:(A0 != 19)=true:=bne_iff_ne.mpr c8;have H':=aA.mk H;clear H;have hcz10__:=gB A1;have hfz10__:=f_ A1;go_wp2;go_meet
     case rel=>exact ⟨_,((A0 == 20)),(by first|rfl|(simp;done)|(simp [*];done)),H',⟨by first|omega|exact Nat.le_refl _⟩,⟨dr A1⟩,⟨by exact tb HB⟩⟩
 case rest =>
  clear HC2;obtain ⟨kq,A9,rfl,HA,HJ1,A1,HB⟩:=hcut
  cases kq with
  | zero=>exact absurd HA.out (by simp [cG.j0])
  | succ kj1 =>
   have H:=HA.out;clear HA;simp only [cG.j0] at H
   by_cases c11:A9=true
   ·subst c11
    have H1:(some (([A2]:List Int)))=some r:=by rw [if_pos rfl] at H;exact H
    clear H;have H:=H1;clear H1;obtain ⟨y102,hy102⟩:∃ y_:List Int,y_=(([A2]:List Int)):=⟨_,rfl⟩;replace H:(some y102)=some r:=gQ hy102 H;have Ny102:=aA.mk hy102;clear hy102;obtain rfl:=os H;have hcz12__:=gB A1;have hfz12__:=f_ A1;go_wp2_with (first|((with_reducible refine bF (N:=24) rfl ?_);refine Kd.R_lit (Kd.int .i64) _ 3 ?hg (N:=24) ?hd (xs:=([A2]:List Int)) (inner:=[.int .i64 A2]) (ok:=fun _=>True) (okp:=fun _=>True) ?hr ?hp (fun _ hk=>hk) trivial (Below.refl _ _) (Nat.le_refl _) (by simp) ?_;(case hd=>rfl);(case hg=>rfl);(case hr=>first|(go_simp;done)|(go_simp;rfl));(case hp=>exact (cQ.one (show Kd.M (Kd.int .i64) _ _ _ A2 [.int .i64 A2] from rfl) (cQ.none _ _)));intro v103 w13 ho14 hb hg_ hnew_;clear hg_ hnew_;(first|rw [← Ny102.out] at ho14|(simp only [Int.reduceToNat] at ho14;rw [← Ny102.out] at ho14));have Aa:=aA.mk (Kd.R_lower ho14 (aG (tb HB)));replace A1:=aA.mk (aM (g:=A7) (o := .cells #[.int .i64 A0,.int .i64 A5,.int .i64 A6,.int .i64 A2,.int .i64 A3,.int .i64 A4] 99 (0,0)) (dr A1) hb);replace HB:=aA.mk (aE (tb HB) hb);clear hb ho14));go_ret;exact ⟨_,er,ra Aa,tb HB⟩
   ·replace c11:=Bool.eq_false_iff.mpr c11;subst c11
    have H1:((bB.f A0 3 16).bind fun A8=>(if A8=true then (some (([A2,A3]:List Int))) else (if A0=18 then (some (([A2,A3,A4]:List Int))) else (some (([]:List Int))))))=some r:=by rw [if_neg (show ¬ (false=true) by decide)] at H;exact H
    clear H;have H:=H1;clear H1;replace H:=ob H;obtain ⟨A8,A150,H⟩:=H
    try dsimp only at H
    have A15:=aA.mk A150;clear A150
    by_cases c16:A8=true
    ·subst c16
     have H1:(some (([A2,A3]:List Int)))=some r:=by rw [if_pos rfl] at H;exact H
     clear H;have H:=H1;clear H1;obtain ⟨y106,hy106⟩:∃ y_:List Int,y_=(([A2,A3]:List Int)):=⟨_,rfl⟩;replace H:(some y106)=some r:=gQ hy106 H;have Ny106:=aA.mk hy106;clear hy106;obtain rfl:=os H;have hcz17__:=gB A1;have hfz17__:=f_ A1;go_wp2_with (first|((with_reducible refine aD (f:=69) rfl ?_);refine aI (some 28) rfl rfl Try.func69 (by kernel_rfl) rfl #[.int .i64 A0,.int .i64 3,.int .i64 16] rfl ml ?_;(with_reducible refine (bB.calls A0 3 16 true _ A15.out).mono ?_);rintro e w' ⟨rfl,⟨nd,rfl⟩⟩;refine ⟨_,rfl,?_⟩)|((with_reducible refine bF (N:=33) rfl ?_);refine Kd.R_lit (Kd.int .i64) _ 3 ?hg (N:=33) ?hd (xs:=([A2,A3]:List Int)) (inner:=[.int .i64 A2,.int .i64 A3]) (ok:=fun _=>True) (okp:=fun _=>True) ?hr ?hp (fun _ hk=>hk) trivial (Below.refl _ _) (Nat.le_refl _) (by simp) ?_;(case hd=>rfl);(case hg=>rfl);(case hr=>first|(go_simp;done)|(go_simp;rfl));(case hp=>exact (cQ.one (show Kd.M (Kd.int .i64) _ _ _ A2 [.int .i64 A2] from rfl) (cQ.one (show Kd.M (Kd.int .i64) _ _ _ A3 [.int .i64 A3] from rfl) (cQ.none _ _))));intro v107 w18 ho19 hb hg_ hnew_;clear hg_ hnew_;(first|rw [← Ny106.out] at ho19|(simp only [Int.reduceToNat] at ho19;rw [← Ny106.out] at ho19));have Ab:=aA.mk (Kd.R_lower ho19 (aG (tb HB)));replace A1:=aA.mk (aM (g:=A7) (o := .cells #[.int .i64 A0,.int .i64 A5,.int .i64 A6,.int .i64 A2,.int .i64 A3,.int .i64 A4] 99 (0,0)) (dr A1) hb);replace HB:=aA.mk (aE (tb HB) hb);clear hb ho19));go_ret;exact ⟨_,er,ra Ab,tb HB⟩
    ·replace c16:=Bool.eq_false_iff.mpr c16;subst c16
     have H1:(if A0=18 then (some (([A2,A3,A4]:List Int))) else (some (([]:List Int))))=some r:=by rw [if_neg (show ¬ (false=true) by decide)] at H;exact H
     clear H;have H:=H1;clear H1
     by_cases c20:A0=18
     ·rw [if_pos c20] at H;have c20b0:(A0 == 18)=true:=beq_iff_eq.mpr c20;have c20b1:(A0 != 18)=false:=bne_eq_false_iff_eq.mpr c20;clear c20;obtain ⟨y109,hy109⟩:∃ y_:List Int,y_=(([A2,A3,A4]:List Int)):=⟨_,rfl⟩;replace H:(some y109)=some r:=gQ hy109 H;have Ny109:=aA.mk hy109;clear hy109;obtain rfl:=os H;have hcz21__:=gB A1;have hfz21__:=f_ A1;go_wp2_with (first|((with_reducible refine aD (f:=69) rfl ?_);refine aI (some 28) rfl rfl Try.func69 (by kernel_rfl) rfl #[.int .i64 A0,.int .i64 3,.int .i64 16] rfl ml ?_;(with_reducible refine (bB.calls A0 3 16 false _ A15.out).mono ?_);rintro e w' ⟨rfl,⟨nd,rfl⟩⟩;refine ⟨_,rfl,?_⟩)|((with_reducible refine bF (N:=44) rfl ?_);refine Kd.R_lit (Kd.int .i64) _ 3 ?hg (N:=44) ?hd (xs:=([A2,A3,A4]:List Int)) (inner:=[.int .i64 A2,.int .i64 A3,.int .i64 A4]) (ok:=fun _=>True) (okp:=fun _=>True) ?hr ?hp (fun _ hk=>hk) trivial (Below.refl _ _) (Nat.le_refl _) (by simp) ?_;(case hd=>rfl);(case hg=>rfl);(case hr=>first|(go_simp;done)|(go_simp;rfl));(case hp=>exact (cQ.one (show Kd.M (Kd.int .i64) _ _ _ A2 [.int .i64 A2] from rfl) (cQ.one (show Kd.M (Kd.int .i64) _ _ _ A3 [.int .i64 A3] from rfl) (cQ.one (show Kd.M (Kd.int .i64) _ _ _ A4 [.int .i64 A4] from rfl) (cQ.none _ _)))));intro v110 w22 ho23 hb hg_ hnew_;clear hg_ hnew_;(first|rw [← Ny109.out] at ho23|(simp only [Int.reduceToNat] at ho23;rw [← Ny109.out] at ho23));have Ac:=aA.mk (Kd.R_lower ho23 (aG (tb HB)));replace A1:=aA.mk (aM (g:=A7) (o := .cells #[.int .i64 A0,.int .i64 A5,.int .i64 A6,.int .i64 A2,.int .i64 A3,.int .i64 A4] 99 (0,0)) (dr A1) hb);replace HB:=aA.mk (aE (tb HB) hb);clear hb ho23));go_ret;exact ⟨_,er,ra Ac,tb HB⟩
     ·rw [if_neg c20] at H;have c20b0:(A0 == 18)=false:=beq_eq_false_iff_ne.mpr c20;have c20b1:(A0 != 18)=true:=bne_iff_ne.mpr c20;obtain ⟨y112,hy112⟩:∃ y_:List Int,y_=(([]:List Int)):=⟨_,rfl⟩;replace H:(some y112)=some r:=gQ hy112 H;have Ny112:=aA.mk hy112;clear hy112;obtain rfl:=os H;have hcz24__:=gB A1;have hfz24__:=f_ A1;go_wp2_with (first|((with_reducible refine aD (f:=69) rfl ?_);refine aI (some 28) rfl rfl Try.func69 (by kernel_rfl) rfl #[.int .i64 A0,.int .i64 3,.int .i64 16] rfl ml ?_;(with_reducible refine (bB.calls A0 3 16 false _ A15.out).mono ?_);rintro e w' ⟨rfl,⟨nd,rfl⟩⟩;refine ⟨_,rfl,?_⟩)|((with_reducible refine bF (N:=45) rfl ?_);refine Kd.R_lit (Kd.int .i64) _ 3 ?hg (N:=45) ?hd (xs:=([]:List Int)) (inner:=[]) (ok:=fun _=>True) (okp:=fun _=>True) ?hr ?hp (fun _ hk=>hk) trivial (Below.refl _ _) (Nat.le_refl _) (by simp) ?_;(case hd=>rfl);(case hg=>rfl);(case hr=>first|(go_simp;done)|(go_simp;rfl));(case hp=>exact (cQ.none _ _));intro v113 w25 ho26 hb hg_ hnew_;clear hg_ hnew_;(first|rw [← Ny112.out] at ho26|(simp only [Int.reduceToNat] at ho26;rw [← Ny112.out] at ho26));have Ad:=aA.mk (Kd.R_lower ho26 (aG (tb HB)));replace A1:=aA.mk (aM (g:=A7) (o := .cells #[.int .i64 A0,.int .i64 A5,.int .i64 A6,.int .i64 A2,.int .i64 A3,.int .i64 A4] 99 (0,0)) (dr A1) hb);replace HB:=aA.mk (aE (tb HB) hb);clear hb ho26));go_ret;exact ⟨_,er,ra Ad,tb HB⟩
def bT.f (k:Nat) (a0:Int) (a1:Int):Option (Bool):=(bB.f a0 1 8).bind fun A2=>(if A2=true then ((aH.f k a0).bind fun A1=>((bB.f a1 0 (wrap64 (A1 - 1))).bind fun A0=>(some A0))) else (some false))
theorem bT.calls (k:Nat) (a0:Int) (a1:Int) (r:Bool) (w:World) (h:bT.f k a0 a1=some r) :
  Calls Try.prog 131 #[.int .i64 a0,.int .i64 a1] w fun e w'=>e = .returned (.bool r)∧bW w w':=by
 have H:((bB.f a0 1 8).bind fun A2=>(if A2=true then ((aH.f k a0).bind fun A1=>((bB.f a1 0 (wrap64 (A1 - 1))).bind fun A0=>(some A0))) else (some false)))=some r:=h;clear h;replace H:=ob H;obtain ⟨A2,A30,H⟩:=H
 try dsimp only at H
 have A3:=aA.mk A30;clear A30
 by_cases c4:A2=true
 ·subst c4
  have H1:((aH.f k a0).bind fun A1=>((bB.f a1 0 (wrap64 (A1 - 1))).bind fun A0=>(some A0)))=some r:=by rw [if_pos rfl] at H;exact H
  clear H;have H:=H1;clear H1;replace H:=ob H;obtain ⟨A1,A50,H⟩:=H;replace H:((bB.f a1 0 (wrap64 (A1 - 1))).bind fun A0=>(some A0))=some r:=H;have A5:=aA.mk A50;clear A50;replace H:=ob H;obtain ⟨A0,A60,H⟩:=H;replace H:(some A0)=some r:=H;have A6:=aA.mk A60;clear A60;obtain rfl:=os H
  go_enter Try.func131,Try.ntmps131
  go_wp2_with (first|((with_reducible refine aD (f:=69) rfl ?_);refine aI (some 6) rfl rfl Try.func69 (by kernel_rfl) rfl #[.int .i64 a0,.int .i64 1,.int .i64 8] rfl ml ?_;(with_reducible refine (bB.calls a0 1 8 true _ A3.out).mono ?_);rintro e w' ⟨rfl,⟨nd,rfl⟩⟩;refine ⟨_,rfl,?_⟩)|(go_at_call 70;(try simp only [aJ,aN]);(with_reducible refine (aH.calls k a0 A1 _ A5.out).mono ?_);rintro e w' ⟨rfl,⟨nd,rfl⟩⟩)|(go_at_call 69;(try simp only [aJ,aN]);(with_reducible refine (bB.calls a1 0 (wrap64 (A1 - 1)) A0 _ A6.out).mono ?_);rintro e w' ⟨rfl,⟨nd,rfl⟩⟩));go_ret;exact ⟨e1,dn⟩
 ·replace c4:=Bool.eq_false_iff.mpr c4;subst c4
  have H1:(some false)=some r:=by rw [if_neg (show ¬ (false=true) by decide)] at H;exact H
  clear H;have H:=H1;clear H1;obtain rfl:=os H
  go_enter Try.func131,Try.ntmps131
  go_wp2_with (first|((with_reducible refine aD (f:=69) rfl ?_);refine aI (some 6) rfl rfl Try.func69 (by kernel_rfl) rfl #[.int .i64 a0,.int .i64 1,.int .i64 8] rfl ml ?_;(with_reducible refine (bB.calls a0 1 8 false _ A3.out).mono ?_);rintro e w' ⟨rfl,⟨nd,rfl⟩⟩;refine ⟨_,rfl,?_⟩));go_ret;exact ⟨e1,dn⟩
def cJ.l0:Nat→List (bL)→Int→Option (Int)
 | 0,_,_=>none
 | k + 1,x0,x1=>if 0≤x1 then (if x1 < (x0.length:Int) then ((bP.f ((aC x0 x1).f0)).bind fun A2=>(if A2=true then (cJ.l0 k x0 ((aC x0 x1).f3)) else (some x1))) else (none)) else (none)
def cJ.f (k:Nat) (l0:List (bL)) (a1:Int):Option (Int):=cJ.l0 k l0 a1
theorem cJ.calls (k:Nat) (A0:Option Addr) (c0:Nat) (l0:List (bL)) (a1:Int) (r:Int) (w:World) (hr0:Kd.C fL w A0 l0.length l0) (hc0:l0.length≤c0) (h:cJ.f k l0 a1=some r) :
  Calls Try.prog 100 #[.slice A0 l0.length c0,.int .i64 a1] w fun e w'=>e = .returned (.int .i64 r)∧bW w w':=by
 have HR0:=aA.mk hr0;have HC0:=aA.mk hc0;clear hr0 hc0;have H:(cJ.l0 k l0 a1)=some r:=h;clear h;have H':=aA.mk H;clear H
 go_enter Try.func100,Try.ntmps100
 go_wp2
 go_loopg [1] k (fun kq v1 w'=>∃ (A1:Int),v1 = .int .i64 A1∧aA (cJ.l0 kq l0 A1=some r)∧aA (kq≤k)∧bW w w')
 case atStart=>exact ⟨(a1),(by first|rfl|(simp;done)|(simp [*];done)),H',⟨Nat.le_refl _⟩,by repeat (first|exact bW.refl _|apply bW.step)⟩
 case round =>
  clear H';obtain ⟨A1,rfl,HA,HK1,⟨m1,rfl⟩⟩:=hrel
  cases gk with
  | zero=>exact absurd HA.out (by simp [cJ.l0])
  | succ k1 =>
   have H:=HA.out;clear HA;simp only [cJ.l0] at H
   by_cases c3:0≤A1
   ·rw [if_pos c3] at H;have c3b0:decide (0≤A1)=true:=decide_eq_true c3;clear c3
    by_cases c4:A1 < (l0.length:Int)
    ·rw [if_pos c4] at H;have c4b0:decide (A1 < (l0.length:Int))=true:=decide_eq_true c4;clear c4;replace H:=ob H;obtain ⟨A2,A50,H⟩:=H;replace H:(if A2=true then (cJ.l0 k1 l0 ((aC l0 A1).f3)) else (some A1))=some r:=H;have A5:=aA.mk A50;clear A50
     by_cases c6:A2=true
     ·subst c6
      have H1:(cJ.l0 k1 l0 ((aC l0 A1).f3))=some r:=by rw [if_pos rfl] at H;exact H
      clear H;have H:=H1;clear H1;have H':=aA.mk H;clear H;have p101:0≤(A1:Int):=od;have q101:A1 < (l0.length:Int):=od;obtain ⟨ad101,e101,hx101_0,hx101_1,hx101_2,hx101_3,hx101_4,hx101_5⟩:=dV HR0.out A1 p101 q101;cases e101;replace p101:=eq_true p101;replace q101:=eq_true q101;go_wp2_with (first|((with_reducible refine aD (f:=103) rfl ?_);refine aI (some 10) rfl rfl Try.func103 (by kernel_rfl) rfl #[.int .i64 ((aC l0 A1).f0)] rfl ml ?_;(with_reducible refine (bP.calls ((aC l0 A1).f0) true _ A5.out).mono ?_);rintro e w' ⟨rfl,⟨nd,rfl⟩⟩;refine ⟨_,rfl,?_⟩;have p103:0≤(A1:Int):=od;have q103:A1 < (l0.length:Int):=od;obtain ⟨ad103,e103,hx103_0,hx103_1,hx103_2,hx103_3,hx103_4,hx103_5⟩:=dV HR0.out A1 p103 q103;obtain rfl:ad101=ad103:=(by injection e103);replace p103:=eq_true p103;replace q103:=eq_true q103));go_roundg k1
      case measure=>have:=HK1.out;omega
      case rel=>exact ⟨((aC l0 A1).f3),(by first|rfl|(simp;done)|(simp [*];done)),H',⟨by have:=HK1.out;omega⟩,by repeat (first|exact bW.refl _|apply bW.step)⟩
     ·replace c6:=Bool.eq_false_iff.mpr c6;subst c6
      have H1:(some A1)=some r:=by rw [if_neg (show ¬ (false=true) by decide)] at H;exact H
      clear H;have H:=H1;clear H1;obtain rfl:=os H;have p101:0≤(A1:Int):=od;have q101:A1 < (l0.length:Int):=od;obtain ⟨ad101,e101,hx101_0,hx101_1,hx101_2,hx101_3,hx101_4,hx101_5⟩:=dV HR0.out A1 p101 q101;cases e101;replace p101:=eq_true p101;replace q101:=eq_true q101;go_wp2_with (first|((with_reducible refine aD (f:=103) rfl ?_);refine aI (some 10) rfl rfl Try.func103 (by kernel_rfl) rfl #[.int .i64 ((aC l0 A1).f0)] rfl ml ?_;(with_reducible refine (bP.calls ((aC l0 A1).f0) false _ A5.out).mono ?_);rintro e w' ⟨rfl,⟨nd,rfl⟩⟩;refine ⟨_,rfl,?_⟩));go_ret;exact ⟨e1,dn⟩
    ·rw [if_neg c4] at H;exact absurd H (by simp)
   ·rw [if_neg c3] at H;exact absurd H (by simp)
def cU.l0:Nat→List (eS)→Int→Int→Option (Int)
 | 0,_,_,_=>none
 | k + 1,x0,x3,x4=>if x4 < (x0.length:Int) then (if 0≤x4 then ((bB.f ((aV x0 x4).f2) 1 8).bind fun A3=>(if A3=true then (cU.l0 k x0 (wrap64 (x3 + ((aV x0 x4).f2))) (wrap64 (x4 + 1))) else (some 13))) else (none)) else (some x3)
def cU.f (k:Nat) (l0:List (eS)):Option (Int):=cU.l0 k l0 0 0
theorem cU.calls (k:Nat) (A0:Option Addr) (c0:Nat) (l0:List (eS)) (r:Int) (w:World) (hr0:Kd.C lU w A0 l0.length l0) (hc0:l0.length≤c0) (h:cU.f k l0=some r) :
  Calls Try.prog 80 #[.slice A0 l0.length c0] w fun e w'=>e = .returned (.int .i64 r)∧bW w w':=by
 have HR0:=aA.mk hr0;have HC0:=aA.mk hc0;clear hr0 hc0;have H:(cU.l0 k l0 0 0)=some r:=h;clear h;have H':=aA.mk H;clear H
 go_enter Try.func80,Try.ntmps80
 go_wp2
 go_loopg [3,4] k (fun kq v3 v4 w'=>∃ (A2:Int) (A1:Int),v3 = .int .i64 A2∧v4 = .int .i64 A1∧aA (cU.l0 kq l0 A2 A1=some r)∧aA (kq≤k)∧bW w w')
 case atStart=>exact ⟨(0),(0),(by first|rfl|(simp;done)|(simp [*];done)),(by first|rfl|(simp;done)|(simp [*];done)),H',⟨Nat.le_refl _⟩,by repeat (first|exact bW.refl _|apply bW.step)⟩
 case round =>
  clear H';obtain ⟨A2,A1,rfl,rfl,HA,HK1,⟨m1,rfl⟩⟩:=hrel
  cases gk with
  | zero=>exact absurd HA.out (by simp [cU.l0])
  | succ k1 =>
   have H:=HA.out;clear HA;simp only [cU.l0] at H
   by_cases c2:A1 < (l0.length:Int)
   ·rw [if_pos c2] at H;have c2b0:decide (A1 < (l0.length:Int))=true:=decide_eq_true c2;clear c2
    by_cases c3:0≤A1
    ·rw [if_pos c3] at H;have c3b0:decide (0≤A1)=true:=decide_eq_true c3;clear c3;replace H:=ob H;obtain ⟨A3,A40,H⟩:=H
     try dsimp only at H
     have A4:=aA.mk A40;clear A40
     by_cases c5:A3=true
     ·subst c5
      have H1:(cU.l0 k1 l0 (wrap64 (A2 + ((aV l0 A1).f2))) (wrap64 (A1 + 1)))=some r:=by rw [if_pos rfl] at H;exact H
      clear H;have H:=H1;clear H1;have H':=aA.mk H;clear H;have p101:0≤(A1:Int):=od;have q101:A1 < (l0.length:Int):=od;obtain ⟨ad101,e101,hx101_0,hx101_1,hx101_2⟩:=jA HR0.out A1 p101 q101;cases e101;replace p101:=eq_true p101;replace q101:=eq_true q101;go_wp2_with (first|((with_reducible refine aD (f:=69) rfl ?_);refine aI (some 16) rfl rfl Try.func69 (by kernel_rfl) rfl #[.int .i64 ((aV l0 A1).f2),.int .i64 1,.int .i64 8] rfl ml ?_;(with_reducible refine (bB.calls ((aV l0 A1).f2) 1 8 true _ A4.out).mono ?_);rintro e w' ⟨rfl,⟨nd,rfl⟩⟩;refine ⟨_,rfl,?_⟩;have p103:0≤(A1:Int):=od;have q103:A1 < (l0.length:Int):=od;obtain ⟨ad103,e103,hx103_0,hx103_1,hx103_2⟩:=jA HR0.out A1 p103 q103;obtain rfl:ad101=ad103:=(by injection e103);replace p103:=eq_true p103;replace q103:=eq_true q103));go_roundg k1
      case measure=>have:=HK1.out;omega
      case rel=>exact ⟨(wrap64 (A2 + ((aV l0 A1).f2))),(wrap64 (A1 + 1)),(by first|rfl|(simp;done)|(simp [*];done)),(by first|rfl|(simp;done)|(simp [*];done)),H',⟨by have:=HK1.out;omega⟩,by repeat (first|exact bW.refl _|apply bW.step)⟩
     ·replace c5:=Bool.eq_false_iff.mpr c5;subst c5
      have H1:(some 13)=some r:=by rw [if_neg (show ¬ (false=true) by decide)] at H;exact H
      clear H;have H:=H1;clear H1;obtain rfl:=os H;have p101:0≤(A1:Int):=od;have q101:A1 < (l0.length:Int):=od;obtain ⟨ad101,e101,hx101_0,hx101_1,hx101_2⟩:=jA HR0.out A1 p101 q101;cases e101;replace p101:=eq_true p101;replace q101:=eq_true q101;go_wp2_with (first|((with_reducible refine aD (f:=69) rfl ?_);refine aI (some 16) rfl rfl Try.func69 (by kernel_rfl) rfl #[.int .i64 ((aV l0 A1).f2),.int .i64 1,.int .i64 8] rfl ml ?_;(with_reducible refine (bB.calls ((aV l0 A1).f2) 1 8 false _ A4.out).mono ?_);rintro e w' ⟨rfl,⟨nd,rfl⟩⟩;refine ⟨_,rfl,?_⟩));go_ret;exact ⟨e1,dn⟩
    ·rw [if_neg c3] at H;exact absurd H (by simp)
   ·rw [if_neg c2] at H;have c2b0:decide (A1 < (l0.length:Int))=false:=decide_eq_false c2;clear c2;obtain rfl:=os H;go_wp2;go_ret;exact ⟨e1,dn⟩
end Go.Proofs.Ythipjoioicmcnaa.G
namespace Go.Proofs.Ythipjoioicmcnaa.Pure
open Go.RowKit Go.Proofs.YthipjoioicmcnaaW.PrintWords Go.Proofs.YthipjoioicmcnaaW.PrintLast Go.Proofs.YthipjoioicmcnaaW.PrintMore
theorem bA {α:Type} (r:α):Ev (fun _=>some r) r:=⟨0,fun _ _=>rfl⟩
theorem jT {α:Type} {g:Nat→Option α} {r:α} (n:Nat) (h:∀ k,n < k→g k=some r):Ev g r:=⟨n + 1,fun k hk=>h k (by omega)⟩
theorem kV {α:Type} {g f:Nat→Option α} {r:α} (h:∀ k,g (k + 1)=f k) (e:Ev f r):Ev g r:=by
 obtain ⟨K,e⟩:=e
 refine ⟨K + 1,fun k hk=>?_⟩
 obtain ⟨m,rfl⟩:∃ m,k=m + 1:=⟨k - 1,by omega⟩
 rw [h m]
 exact e m (by omega)
theorem aZ {α:Type} {g:Nat→Option α} {r:α} (e:Ev (fun k=>g (k + 1)) r):Ev g r:=kV (fun _=>rfl) e
theorem rT {α:Type} {g f:Nat→Option α} {r:α} (h:∀ k,g k=f k) (e:Ev f r):Ev g r:=by
 obtain ⟨K,e⟩:=e
 exact ⟨K,fun k hk=>(h k).trans (e k hk)⟩
theorem bC {α β:Type} {g:Nat→Option α} {f:Nat→α→Option β} {a:α} {r:β} (h:Ev g a) (e:Ev (fun n=>f n a) r):Ev (fun n=>(g n).bind (f n)) r:=by
 obtain ⟨K,h⟩:=h
 obtain ⟨M,e⟩:=e
 refine ⟨K + M,fun n hn=>?_⟩
 show (g n).bind (f n)=some r
 rw [h n (by omega)]
 exact e n (by omega)
theorem vY {α:Type} {g:Nat→Option α} {r:α} (h:Ev g r):∃ k,g k=some r:=by
 obtain ⟨K,h⟩:=h
 exact ⟨K,h K (Nat.le_refl _)⟩
theorem mC {α:Type} {g:Nat→Option α} {a b:α} (h:Ev g a) (e:Ev g b):a=b:=by
 obtain ⟨K,h⟩:=h
 obtain ⟨M,e⟩:=e
 exact Option.some.inj ((h (K + M) (by omega)).symm.trans (e (K + M) (by omega)))
theorem lM {α:Type} (L:Nat→Nat→Option α) (n:Nat) (r:α) (step:∀ i,i < n→Ev (fun k=>L k (i + 1)) r→Ev (fun k=>L k i) r) (stop:Ev (fun k=>L k n) r):∀ i,i≤n→Ev (fun k=>L k i) r:=by
 have h:∀ d i,i + d=n→Ev (fun k=>L k i) r:=by
  intro d
  induction d with
  | zero =>
   intro i hi
   obtain rfl:i=n:=by omega
   exact stop
  | succ d ih=>intro i hi;exact step i (by omega) (ih (i + 1) (by omega))
 exact fun i hi=>h (n - i) i (by omega)
end Go.Proofs.Ythipjoioicmcnaa.Pure
namespace Go.Proofs.Ythipjoioicmcnaa.G
open Go.RowKit Go.Proofs.YthipjoioicmcnaaW.PrintWords Go.Proofs.YthipjoioicmcnaaW.PrintLast Go.Proofs.YthipjoioicmcnaaW.PrintMore Go.Proofs.Ythipjoioicmcnaa.Sh
attribute [local go_sem] dP dR eA eB dB dC dQ dS
def cS.f (a0:Int):Option (Bool):=(cA.f a0 1 8).bind fun A0=>(some A0)
theorem cS.calls (a0:Int) (r:Bool) (w:World) (h:cS.f a0=some r) :
  Calls Try.prog 119 #[.int .i64 a0] w fun e w'=>e = .returned (.bool r)∧bW w w':=by
 have H:((cA.f a0 1 8).bind fun A0=>(some A0))=some r:=h;clear h;replace H:=ob H;obtain ⟨A0,A20,H⟩:=H;replace H:(some A0)=some r:=H;have A2:=aA.mk A20;clear A20;obtain rfl:=os H
 go_enter Try.func119,Try.ntmps119
 go_wp2_with (first|((with_reducible refine aD (f:=61) rfl ?_);refine aI (some 4) rfl rfl Try.func61 (by kernel_rfl) rfl #[.int .i64 a0,.int .i64 1,.int .i64 8] rfl ml ?_;(with_reducible refine (cA.calls a0 1 8 A0 _ A2.out).mono ?_);rintro e w' ⟨rfl,⟨nd,rfl⟩⟩;refine ⟨_,rfl,?_⟩));go_ret;exact ⟨e1,dn⟩
def dL.f (a0:Int):Option (Bool):=(cA.f a0 0 255).bind fun A0=>(some A0)
theorem dL.calls (a0:Int) (r:Bool) (w:World) (h:dL.f a0=some r) :
  Calls Try.prog 139 #[.int .i64 a0] w fun e w'=>e = .returned (.bool r)∧bW w w':=by
 have H:((cA.f a0 0 255).bind fun A0=>(some A0))=some r:=h;clear h;replace H:=ob H;obtain ⟨A0,A20,H⟩:=H;replace H:(some A0)=some r:=H;have A2:=aA.mk A20;clear A20;obtain rfl:=os H
 go_enter Try.func139,Try.ntmps139
 go_wp2_with (first|((with_reducible refine aD (f:=61) rfl ?_);refine aI (some 4) rfl rfl Try.func61 (by kernel_rfl) rfl #[.int .i64 a0,.int .i64 0,.int .i64 255] rfl ml ?_;(with_reducible refine (cA.calls a0 0 255 A0 _ A2.out).mono ?_);rintro e w' ⟨rfl,⟨nd,rfl⟩⟩;refine ⟨_,rfl,?_⟩));go_ret;exact ⟨e1,dn⟩
end Go.Proofs.Ythipjoioicmcnaa.G
