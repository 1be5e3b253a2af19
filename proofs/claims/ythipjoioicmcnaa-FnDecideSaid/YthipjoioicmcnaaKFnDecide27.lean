-- texts of this session, merged by a program of it (wip/gen/pack.py)
import Derived.Test.YthipjoioicmcnaaKFnDecide1
import Derived.Test.YthipjoioicmcnaaKFnDecide21
import Derived.Test.YthipjoioicmcnaaKFnDecide2
import Derived.Test.YthipjoioicmcnaaKFnDecide17
import Derived.Test.YthipjoioicmcnaaKFnDecide22
import Derived.Test.YthipjoioicmcnaaKFnDecide12
import Derived.Test.YthipjoioicmcnaaKFnDecide3
import Derived.Test.YthipjoioicmcnaaKFnDecide15
import Derived.Test.YthipjoioicmcnaaKFnDecide24
import Derived.Test.YthipjoioicmcnaaKFnDecide16
import Derived.Test.YthipjoioicmcnaaKFnDecide7
import Derived.Test.YthipjoioicmcnaaKFnDecide19
import Derived.Test.YthipjoioicmcnaaKFnDecide11
import Derived.Test.YthipjoioicmcnaaKFnDecide14
set_option linter.unusedVariables false
set_option linter.unusedSimpArgs false
set_option maxHeartbeats 80000000
set_option maxRecDepth 100000
namespace Go.Proofs.Ythipjoioicmcnaa.G
open Go.RowKit Go.Proofs.YthipjoioicmcnaaW.PrintWords Go.Proofs.YthipjoioicmcnaaW.PrintLast Go.Proofs.YthipjoioicmcnaaW.PrintMore Go.Proofs.Ythipjoioicmcnaa.Sh
attribute [local go_sem] dP dR eA eB dB dC dQ dS
def fA.f (k:Nat) (s0_0:List Int) (s0_1:Int) (s0_2:Int) (a1:Int):Option ((List (bL)) × Int × Int):=(dH.f k s0_0 s0_1 s0_2 (([]:List (bL))) (([]:List (bL))) 0 a1 4).bind fun bt107=>(if (bt107.1.length:Int) > 80 then (some ((([(⟨1,1,0,0,0,0⟩:bL),(⟨20,1,0,0,1,0⟩:bL)]:List (bL))),bt107.2.2.2.2.1,bt107.2.2.2.2.2)) else ((cI.f k bt107.1).bind fun A5=>(if A5=true then (some (bt107.1,bt107.2.2.2.2.1,bt107.2.2.2.2.2)) else (some ((([(⟨1,1,0,0,0,0⟩:bL),(⟨20,1,0,0,1,0⟩:bL)]:List (bL))),bt107.2.2.2.2.1,bt107.2.2.2.2.2)))))
theorem fA.calls (k:Nat) (g:Nat) (s0_0:List Int) (s0_1:Int) (s0_2:Int) (a1:Int) (r1:List (bL)) (r2:Int) (r3:Int) (w0 w:World) (hI:bK w0 w g s0_0 s0_1 s0_2) (hB:Below w0.heap.size w0 w) (h:fA.f k s0_0 s0_1 s0_2 a1=some (r1,r2,r3)) :
  Calls Try.prog 95 #[.pointer (some ⟨g,0,none⟩),.int .i64 a1] w fun e w'=>∃ v0_:Value,e = .returned (v0_)∧Kd.R fL 99 w' w.heap.size (fun _=>True) v0_ r1∧bK w0 w' g s0_0 r2 r3∧Below w0.heap.size w0 w'∧bI w w' g none:=by
 have hu99:=Try.underlying99;have HI0:=aA.mk hI;have HK:=aA.mk (bI.refl w g none);have HL:=aA.mk hB.size;clear hI;have HW0:=aA.mk hB.size;have HB:=aA.mk hB;clear hB;have H:((dH.f k s0_0 s0_1 s0_2 (([]:List (bL))) (([]:List (bL))) 0 a1 4).bind fun bt107=>(if (bt107.1.length:Int) > 80 then (some ((([(⟨1,1,0,0,0,0⟩:bL),(⟨20,1,0,0,1,0⟩:bL)]:List (bL))),bt107.2.2.2.2.1,bt107.2.2.2.2.2)) else ((cI.f k bt107.1).bind fun A5=>(if A5=true then (some (bt107.1,bt107.2.2.2.2.1,bt107.2.2.2.2.2)) else (some ((([(⟨1,1,0,0,0,0⟩:bL),(⟨20,1,0,0,1,0⟩:bL)]:List (bL))),bt107.2.2.2.2.1,bt107.2.2.2.2.2))))))=some (r1,r2,r3):=h;clear h;obtain ⟨y101,hy101⟩:∃ y_:List (bL),y_=(([]:List (bL))):=⟨_,rfl⟩;replace H:((dH.f k s0_0 s0_1 s0_2 y101 (([]:List (bL))) 0 a1 4).bind fun bt107=>(if (bt107.1.length:Int) > 80 then (some ((([(⟨1,1,0,0,0,0⟩:bL),(⟨20,1,0,0,1,0⟩:bL)]:List (bL))),bt107.2.2.2.2.1,bt107.2.2.2.2.2)) else ((cI.f k bt107.1).bind fun A5=>(if A5=true then (some (bt107.1,bt107.2.2.2.2.1,bt107.2.2.2.2.2)) else (some ((([(⟨1,1,0,0,0,0⟩:bL),(⟨20,1,0,0,1,0⟩:bL)]:List (bL))),bt107.2.2.2.2.1,bt107.2.2.2.2.2))))))=some (r1,r2,r3):=gQ hy101 H;have Ny101:=aA.mk hy101;clear hy101;obtain ⟨y104,hy104⟩:∃ y_:List (bL),y_=(([]:List (bL))):=⟨_,rfl⟩;replace H:((dH.f k s0_0 s0_1 s0_2 y101 y104 0 a1 4).bind fun bt107=>(if (bt107.1.length:Int) > 80 then (some ((([(⟨1,1,0,0,0,0⟩:bL),(⟨20,1,0,0,1,0⟩:bL)]:List (bL))),bt107.2.2.2.2.1,bt107.2.2.2.2.2)) else ((cI.f k bt107.1).bind fun A5=>(if A5=true then (some (bt107.1,bt107.2.2.2.2.1,bt107.2.2.2.2.2)) else (some ((([(⟨1,1,0,0,0,0⟩:bL),(⟨20,1,0,0,1,0⟩:bL)]:List (bL))),bt107.2.2.2.2.1,bt107.2.2.2.2.2))))))=some (r1,r2,r3):=gQ hy104 H;have Ny104:=aA.mk hy104;clear hy104;replace H:=ob H;obtain ⟨⟨A4,A8,A9,Aa,A6,A7⟩,A30,H⟩:=H
 try dsimp only at H
 have A3:=aA.mk A30;clear A30
 by_cases c4:(A4.length:Int) > 80
 ·rw [if_pos c4] at H;have c4b0:decide (80 < (A4.length:Int))=true:=decide_eq_true c4;have c4b1:decide (80 < A4.length)=true:=decide_eq_true (by omega);clear c4;obtain ⟨y115,hy115⟩:∃ y_:List (bL),y_=(([(⟨1,1,0,0,0,0⟩:bL),(⟨20,1,0,0,1,0⟩:bL)]:List (bL))):=⟨_,rfl⟩;replace H:(some (y115,A6,A7))=some (r1,r2,r3):=gQ hy115 H;have Ny115:=aA.mk hy115;clear hy115;simp only [Option.some.injEq,Prod.mk.injEq] at H;obtain ⟨rfl,rfl,rfl⟩:=H
  go_enter Try.func95,Try.ntmps95
  go_wp2_with (first|((with_reducible refine bF (N:=11) rfl ?_);refine Kd.R_lit fL _ 99 ?hg (N:=11) ?hd (xs:=([]:List (bL))) (inner:=[]) (ok:=fun _=>True) (okp:=fun _=>True) ?hr ?hp (fun _ hk=>hk) trivial (Below.refl _ _) (Nat.le_refl _) (by simp) ?_;(case hd=>rfl);(case hg=>rfl);(case hr=>first|(go_simp;done)|(go_simp;rfl));(case hp=>exact (cQ.none _ _));intro v102 w5 ho6 hb hg_ hnew_;clear hg_ hnew_;(first|rw [← Ny101.out] at ho6|(simp only [Int.reduceToNat] at ho6;rw [← Ny101.out] at ho6));have A1:=aA.mk (Kd.R_lower ho6 (eQ (w:=w) (g:=g) (row:=none) (tp HK)));replace HK:=aA.mk (bI.trans (tp HK) (bI.of_below hb g none) (.inl rfl));replace HB:=aA.mk (aE (dX HB HI0) hb);replace HI0:=aA.mk (bK.below (dJ HI0) hb);clear hb ho6)|((with_reducible refine bF (N:=12) rfl ?_);refine Kd.R_lit fL _ 99 ?hg (N:=12) ?hd (xs:=([]:List (bL))) (inner:=[]) (ok:=fun _=>True) (okp:=fun _=>True) ?hr ?hp (fun _ hk=>hk) trivial (Below.refl _ _) (Nat.le_refl _) (by simp) ?_;(case hd=>rfl);(case hg=>rfl);(case hr=>first|(go_simp;done)|(go_simp;rfl));(case hp=>exact (cQ.none _ _));intro v105 w7 ho8 hb hg_ hnew_;clear hg_ hnew_;(first|rw [← Ny104.out] at ho8|(simp only [Int.reduceToNat] at ho8;rw [← Ny104.out] at ho8));have A0:=aA.mk (Kd.R_lower (Kd.R_new' ho8 (Kd.R_lt (ra A1))) (eQ (w:=w) (g:=g) (row:=none) (tp HK)));replace A1:=aA.mk (Kd.R_elder' (ra A1) (Kd.R_base ho8) hb);replace HK:=aA.mk (bI.trans (tp HK) (bI.of_below hb g none) (.inl rfl));replace HB:=aA.mk (aE (dX HB HI0) hb);replace HI0:=aA.mk (bK.below (dJ HI0) hb);clear hb ho8;obtain ⟨Ao9,co9,eo9⟩:=Kd.R_slice A1.out;subst eo9;obtain ⟨Af,Ag,eo10⟩:=Kd.R_slice A0.out;subst eo10)|((with_reducible refine aD (f:=127) rfl ?_);refine aI (some 14) rfl rfl Try.func127 (by kernel_rfl) rfl #[.pointer (some ⟨g,0,none⟩),.slice Ao9 y101.length co9,.slice Af y104.length Ag,.int .i64 0,.int .i64 a1,.int .i64 4] rfl ml ?_;(with_reducible refine (dH.calls k g s0_0 s0_1 s0_2 (fun k_=>some k_=(.slice Ao9 y101.length co9:Value).ownBlock) (.slice Ao9 y101.length co9) y101 _ _ y104 0 a1 4 A4 A8 A9 Aa A6 A7 w0 _ ?side1 ?side2 ?side3 ?side4 ?side5 A3.out).mono ?_);(case side1=>exact dJ HI0);(case side2=>exact dX HB HI0);(case side3=>exact Kd.R_lower (Kd.R_tight rfl A1.out) HL.out);(case side4=>exact Kd.C_kept_own ((bK.apart HI0.out A0.out (by decide))) (fun k_ hk_ hs_=>Or.elim hs_ (fun hs_=>(hk_.1.2) hs_) (fun e_=>(hk_.2) e_)));(case side5=>exact (Kd.R_reads' A0.out).2.1);rintro e w11 ⟨v108,rfl,ho0,hi,hb,hkp⟩;refine ⟨_,rfl,?_⟩;have A2:=aA.mk (Kd.R_mono (ok':=fun k_=>some k_≠(.slice Af y104.length Ag:Value).ownBlock) (Kd.R_raise (d:=fL) (b:=w0.heap.size) (b':=w.heap.size) (fun _ _ _ _ h_=>h_) ho0 (fun k_ e_=>Or.elim (ho0.1 k_ e_) (fun hs_=>(fun e_=>Kd.R_base A1.out k_ e_.symm) hs_) (fun hn_=>Nat.le_trans (eQ (w:=w) (g:=g) (row:=none) (tp HK)) hn_))) (fun k_ hk_=>Or.elim hk_ (fun hs_=>fun e_=>((((bK.apart HI0.out A0.out (by decide))).1 k_ e_.symm).1.2) hs_) (fun hn_=>(Kd.fresh' (Kd.R_lt (ra A0)) k_ hn_))));replace A0:=aA.mk (Kd.R_mono (ok':=fun k_=>some k_≠(v108:Value).ownBlock) (Kd.R_keptB ((bK.apart HI0.out A0.out (by decide))) hkp (fun k_ hk_ hs_=>Or.elim hs_ (fun hs_=>(hk_.1.2) hs_) (fun e_=>(hk_.2) e_))) (fun k_ hk_=>fun e_=>Or.elim (ho0.1 k_ e_.symm) (fun hs_=>hk_.2.1 (by first|exact hs_|exact Or.inl hs_)) (fun hn_=>Nat.not_le.2 hk_.2.2 hn_)));replace HI0:=aA.mk (hi);replace HK:=aA.mk (cW.keepG (tp HK) hkp (fun k_ hs_=>Or.elim hs_ (fun hs_=>(fun e_ => .inr (Kd.R_base A1.out k_ e_.symm)) hs_) (fun e_ => .inl e_)));replace HB:=aA.mk (hb);clear A1;(try clear hb);(try clear hkp);(try clear ho0);obtain ⟨Ao12,co12,eo12⟩:=Kd.R_slice A2.out;subst eo12)|((with_reducible refine bF (N:=29) rfl ?_);refine Kd.R_lit fL _ 99 ?hg (N:=29) ?hd (xs:=([(⟨1,1,0,0,0,0⟩:bL),(⟨20,1,0,0,1,0⟩:bL)]:List (bL))) (inner:=[.int .i64 1,.int .i64 1,.int .i64 0,.int .i64 0,.int .i64 0,.int .i64 0,.int .i64 20,.int .i64 1,.int .i64 0,.int .i64 0,.int .i64 1,.int .i64 0]) (ok:=fun _=>True) (okp:=fun _=>True) ?hr ?hp (fun _ hk=>hk) trivial (Below.refl _ _) (Nat.le_refl _) (by simp) ?_;(case hd=>rfl);(case hg=>rfl);(case hr=>first|(go_simp;done)|(go_simp;rfl));(case hp=>exact (cQ.c6 (show Kd.M fL _ _ _ (⟨1,1,0,0,0,0⟩:bL) [.int .i64 1,.int .i64 1,.int .i64 0,.int .i64 0,.int .i64 0,.int .i64 0] from (gS _ _ _ (⟨1,1,0,0,0,0⟩:bL) )) (cQ.c6 (show Kd.M fL _ _ _ (⟨20,1,0,0,1,0⟩:bL) [.int .i64 20,.int .i64 1,.int .i64 0,.int .i64 0,.int .i64 1,.int .i64 0] from (gS _ _ _ (⟨20,1,0,0,1,0⟩:bL) )) (cQ.none _ _))));intro v116 w13 ho14 hb hg_ hnew_;clear hg_ hnew_;(first|rw [← Ny115.out] at ho14|(simp only [Int.reduceToNat] at ho14;rw [← Ny115.out] at ho14));have Ah:=aA.mk (Kd.R_lower (Kd.R_new' (Kd.R_new' ho14 (Kd.R_lt (ra A0))) (Kd.R_lt (ra A2))) (eQ (w:=w) (g:=g) (row:=none) (tp HK)));replace A0:=aA.mk (Kd.R_elder' (ra A0) (Kd.R_base ho14) hb);replace A2:=aA.mk (Kd.R_elder' (ra A2) (Kd.R_base ho14) hb);replace HK:=aA.mk (bI.trans (tp HK) (bI.of_below hb g none) (.inl rfl));replace HB:=aA.mk (aE (dX HB HI0) hb);replace HI0:=aA.mk (bK.below (dJ HI0) hb);clear hb ho14))
  go_ret;exact ⟨_,er,by (with_reducible repeat (first|apply Kd.R_alloc|apply Kd.R_drewN|apply Kd.R_drew));exact Kd.R_mono Ah.out (fun _ hk=>trivial),dJ HI0,dX HB HI0,tp HK⟩
 ·rw [if_neg c4] at H;have c4b0:decide (80 < (A4.length:Int))=false:=decide_eq_false c4;have c4b1:decide (80 < A4.length)=false:=decide_eq_false (by omega);clear c4;replace H:=ob H;obtain ⟨A5,A150,H⟩:=H
  try dsimp only at H
  have A15:=aA.mk A150;clear A150
  by_cases c16:A5=true
  ·subst c16
   have H1:(some (A4,A6,A7))=some (r1,r2,r3):=by rw [if_pos rfl] at H;exact H
   clear H;have H:=H1;clear H1;simp only [Option.some.injEq,Prod.mk.injEq] at H;obtain ⟨rfl,rfl,rfl⟩:=H
   go_enter Try.func95,Try.ntmps95
   go_wp2_with (first|((with_reducible refine bF (N:=11) rfl ?_);refine Kd.R_lit fL _ 99 ?hg (N:=11) ?hd (xs:=([]:List (bL))) (inner:=[]) (ok:=fun _=>True) (okp:=fun _=>True) ?hr ?hp (fun _ hk=>hk) trivial (Below.refl _ _) (Nat.le_refl _) (by simp) ?_;(case hd=>rfl);(case hg=>rfl);(case hr=>first|(go_simp;done)|(go_simp;rfl));(case hp=>exact (cQ.none _ _));intro v102 w17 ho18 hb hg_ hnew_;clear hg_ hnew_;(first|rw [← Ny101.out] at ho18|(simp only [Int.reduceToNat] at ho18;rw [← Ny101.out] at ho18));have A1:=aA.mk (Kd.R_lower ho18 (eQ (w:=w) (g:=g) (row:=none) (tp HK)));replace HK:=aA.mk (bI.trans (tp HK) (bI.of_below hb g none) (.inl rfl));replace HB:=aA.mk (aE (dX HB HI0) hb);replace HI0:=aA.mk (bK.below (dJ HI0) hb);clear hb ho18)|((with_reducible refine bF (N:=12) rfl ?_);refine Kd.R_lit fL _ 99 ?hg (N:=12) ?hd (xs:=([]:List (bL))) (inner:=[]) (ok:=fun _=>True) (okp:=fun _=>True) ?hr ?hp (fun _ hk=>hk) trivial (Below.refl _ _) (Nat.le_refl _) (by simp) ?_;(case hd=>rfl);(case hg=>rfl);(case hr=>first|(go_simp;done)|(go_simp;rfl));(case hp=>exact (cQ.none _ _));intro v105 w19 ho20 hb hg_ hnew_;clear hg_ hnew_;(first|rw [← Ny104.out] at ho20|(simp only [Int.reduceToNat] at ho20;rw [← Ny104.out] at ho20));have A0:=aA.mk (Kd.R_lower (Kd.R_new' ho20 (Kd.R_lt (ra A1))) (eQ (w:=w) (g:=g) (row:=none) (tp HK)));replace A1:=aA.mk (Kd.R_elder' (ra A1) (Kd.R_base ho20) hb);replace HK:=aA.mk (bI.trans (tp HK) (bI.of_below hb g none) (.inl rfl));replace HB:=aA.mk (aE (dX HB HI0) hb);replace HI0:=aA.mk (bK.below (dJ HI0) hb);clear hb ho20;obtain ⟨Ab,Ac,eo21⟩:=Kd.R_slice A1.out;subst eo21;obtain ⟨Ai,Aj,eo22⟩:=Kd.R_slice A0.out;subst eo22)|((with_reducible refine aD (f:=127) rfl ?_);refine aI (some 14) rfl rfl Try.func127 (by kernel_rfl) rfl #[.pointer (some ⟨g,0,none⟩),.slice Ab y101.length Ac,.slice Ai y104.length Aj,.int .i64 0,.int .i64 a1,.int .i64 4] rfl ml ?_;(with_reducible refine (dH.calls k g s0_0 s0_1 s0_2 (fun k_=>some k_=(.slice Ab y101.length Ac:Value).ownBlock) (.slice Ab y101.length Ac) y101 _ _ y104 0 a1 4 A4 A8 A9 Aa A6 A7 w0 _ ?side1 ?side2 ?side3 ?side4 ?side5 A3.out).mono ?_);(case side1=>exact dJ HI0);(case side2=>exact dX HB HI0);(case side3=>exact Kd.R_lower (Kd.R_tight rfl A1.out) HL.out);(case side4=>exact Kd.C_kept_own ((bK.apart HI0.out A0.out (by decide))) (fun k_ hk_ hs_=>Or.elim hs_ (fun hs_=>(hk_.1.2) hs_) (fun e_=>(hk_.2) e_)));(case side5=>exact (Kd.R_reads' A0.out).2.1);rintro e w23 ⟨v108,rfl,ho0,hi,hb,hkp⟩;refine ⟨_,rfl,?_⟩;have A2:=aA.mk (Kd.R_mono (ok':=fun k_=>some k_≠(.slice Ai y104.length Aj:Value).ownBlock) (Kd.R_raise (d:=fL) (b:=w0.heap.size) (b':=w.heap.size) (fun _ _ _ _ h_=>h_) ho0 (fun k_ e_=>Or.elim (ho0.1 k_ e_) (fun hs_=>(fun e_=>Kd.R_base A1.out k_ e_.symm) hs_) (fun hn_=>Nat.le_trans (eQ (w:=w) (g:=g) (row:=none) (tp HK)) hn_))) (fun k_ hk_=>Or.elim hk_ (fun hs_=>fun e_=>((((bK.apart HI0.out A0.out (by decide))).1 k_ e_.symm).1.2) hs_) (fun hn_=>(Kd.fresh' (Kd.R_lt (ra A0)) k_ hn_))));replace A0:=aA.mk (Kd.R_mono (ok':=fun k_=>some k_≠(v108:Value).ownBlock) (Kd.R_keptB ((bK.apart HI0.out A0.out (by decide))) hkp (fun k_ hk_ hs_=>Or.elim hs_ (fun hs_=>(hk_.1.2) hs_) (fun e_=>(hk_.2) e_))) (fun k_ hk_=>fun e_=>Or.elim (ho0.1 k_ e_.symm) (fun hs_=>hk_.2.1 (by first|exact hs_|exact Or.inl hs_)) (fun hn_=>Nat.not_le.2 hk_.2.2 hn_)));replace HI0:=aA.mk (hi);replace HK:=aA.mk (cW.keepG (tp HK) hkp (fun k_ hs_=>Or.elim hs_ (fun hs_=>(fun e_ => .inr (Kd.R_base A1.out k_ e_.symm)) hs_) (fun e_ => .inl e_)));replace HB:=aA.mk (hb);clear A1;(try clear hb);(try clear hkp);(try clear ho0);obtain ⟨Ao24,co24,eo24⟩:=Kd.R_slice A2.out;subst eo24)|(go_at_call 96;(try simp only [aJ,aN]);(with_reducible refine (cI.calls k _ _ A4 true _ ?side1 ?side2 A15.out).mono ?_);(case side1=>exact cw (Kd.R_reads' A2.out).2.2);(case side2=>exact (Kd.R_reads' A2.out).2.1);rintro e w25 ⟨rfl,hb⟩;replace A0:=aA.mk (Kd.R_below (ra A0) hb);replace A2:=aA.mk (Kd.R_below (ra A2) hb);replace HK:=aA.mk (bI.trans (tp HK) (bI.of_below hb g none) (.inl rfl));replace HB:=aA.mk (aE (dX HB HI0) hb);replace HI0:=aA.mk (bK.below (dJ HI0) hb);(try clear hb);(try clear hb2);(try clear hk);(try clear hi)))
   go_ret;exact ⟨_,er,by (with_reducible repeat (first|apply Kd.R_alloc|apply Kd.R_drewN|apply Kd.R_drew));exact Kd.R_mono A2.out (fun _ hk=>trivial),dJ HI0,dX HB HI0,tp HK⟩
  ·replace c16:=Bool.eq_false_iff.mpr c16;subst c16
   have H1:(some ((([(⟨1,1,0,0,0,0⟩:bL),(⟨20,1,0,0,1,0⟩:bL)]:List (bL))),A6,A7))=some (r1,r2,r3):=by rw [if_neg (show ¬ (false=true) by decide)] at H;exact H
   clear H;have H:=H1;clear H1;obtain ⟨y119,hy119⟩:∃ y_:List (bL),y_=(([(⟨1,1,0,0,0,0⟩:bL),(⟨20,1,0,0,1,0⟩:bL)]:List (bL))):=⟨_,rfl⟩;replace H:(some (y119,A6,A7))=some (r1,r2,r3):=gQ hy119 H;have Ny119:=aA.mk hy119;clear hy119;simp only [Option.some.injEq,Prod.mk.injEq] at H;obtain ⟨rfl,rfl,rfl⟩:=H
   go_enter Try.func95,Try.ntmps95
   go_wp2_with (first|((with_reducible refine bF (N:=11) rfl ?_);refine Kd.R_lit fL _ 99 ?hg (N:=11) ?hd (xs:=([]:List (bL))) (inner:=[]) (ok:=fun _=>True) (okp:=fun _=>True) ?hr ?hp (fun _ hk=>hk) trivial (Below.refl _ _) (Nat.le_refl _) (by simp) ?_;(case hd=>rfl);(case hg=>rfl);(case hr=>first|(go_simp;done)|(go_simp;rfl));(case hp=>exact (cQ.none _ _));intro v102 w26 ho27 hb hg_ hnew_;clear hg_ hnew_;(first|rw [← Ny101.out] at ho27|(simp only [Int.reduceToNat] at ho27;rw [← Ny101.out] at ho27));have A1:=aA.mk (Kd.R_lower ho27 (eQ (w:=w) (g:=g) (row:=none) (tp HK)));replace HK:=aA.mk (bI.trans (tp HK) (bI.of_below hb g none) (.inl rfl));replace HB:=aA.mk (aE (dX HB HI0) hb);replace HI0:=aA.mk (bK.below (dJ HI0) hb);clear hb ho27)|((with_reducible refine bF (N:=12) rfl ?_);refine Kd.R_lit fL _ 99 ?hg (N:=12) ?hd (xs:=([]:List (bL))) (inner:=[]) (ok:=fun _=>True) (okp:=fun _=>True) ?hr ?hp (fun _ hk=>hk) trivial (Below.refl _ _) (Nat.le_refl _) (by simp) ?_;(case hd=>rfl);(case hg=>rfl);(case hr=>first|(go_simp;done)|(go_simp;rfl));(case hp=>exact (cQ.none _ _));intro v105 w28 ho29 hb hg_ hnew_;clear hg_ hnew_;(first|rw [← Ny104.out] at ho29|(simp only [Int.reduceToNat] at ho29;rw [← Ny104.out] at ho29));have A0:=aA.mk (Kd.R_lower (Kd.R_new' ho29 (Kd.R_lt (ra A1))) (eQ (w:=w) (g:=g) (row:=none) (tp HK)));replace A1:=aA.mk (Kd.R_elder' (ra A1) (Kd.R_base ho29) hb);replace HK:=aA.mk (bI.trans (tp HK) (bI.of_below hb g none) (.inl rfl));replace HB:=aA.mk (aE (dX HB HI0) hb);replace HI0:=aA.mk (bK.below (dJ HI0) hb);clear hb ho29;obtain ⟨Ad,Ae,eo30⟩:=Kd.R_slice A1.out;subst eo30;obtain ⟨Ak,Al,eo31⟩:=Kd.R_slice A0.out;subst eo31)|((with_reducible refine aD (f:=127) rfl ?_);refine aI (some 14) rfl rfl Try.func127 (by kernel_rfl) rfl #[.pointer (some ⟨g,0,none⟩),.slice Ad y101.length Ae,.slice Ak y104.length Al,.int .i64 0,.int .i64 a1,.int .i64 4] rfl ml ?_;(with_reducible refine (dH.calls k g s0_0 s0_1 s0_2 (fun k_=>some k_=(.slice Ad y101.length Ae:Value).ownBlock) (.slice Ad y101.length Ae) y101 _ _ y104 0 a1 4 A4 A8 A9 Aa A6 A7 w0 _ ?side1 ?side2 ?side3 ?side4 ?side5 A3.out).mono ?_);(case side1=>exact dJ HI0);(case side2=>exact dX HB HI0);(case side3=>exact Kd.R_lower (Kd.R_tight rfl A1.out) HL.out);(case side4=>exact Kd.C_kept_own ((bK.apart HI0.out A0.out (by decide))) (fun k_ hk_ hs_=>Or.elim hs_ (fun hs_=>(hk_.1.2) hs_) (fun e_=>(hk_.2) e_)));(case side5=>exact (Kd.R_reads' A0.out).2.1);rintro e w32 ⟨v108,rfl,ho0,hi,hb,hkp⟩;refine ⟨_,rfl,?_⟩;have A2:=aA.mk (Kd.R_mono (ok':=fun k_=>some k_≠(.slice Ak y104.length Al:Value).ownBlock) (Kd.R_raise (d:=fL) (b:=w0.heap.size) (b':=w.heap.size) (fun _ _ _ _ h_=>h_) ho0 (fun k_ e_=>Or.elim (ho0.1 k_ e_) (fun hs_=>(fun e_=>Kd.R_base A1.out k_ e_.symm) hs_) (fun hn_=>Nat.le_trans (eQ (w:=w) (g:=g) (row:=none) (tp HK)) hn_))) (fun k_ hk_=>Or.elim hk_ (fun hs_=>fun e_=>((((bK.apart HI0.out A0.out (by decide))).1 k_ e_.symm).1.2) hs_) (fun hn_=>(Kd.fresh' (Kd.R_lt (ra A0)) k_ hn_))));replace A0:=aA.mk (Kd.R_mono (ok':=fun k_=>some k_≠(v108:Value).ownBlock) (Kd.R_keptB ((bK.apart HI0.out A0.out (by decide))) hkp (fun k_ hk_ hs_=>Or.elim hs_ (fun hs_=>(hk_.1.2) hs_) (fun e_=>(hk_.2) e_))) (fun k_ hk_=>fun e_=>Or.elim (ho0.1 k_ e_.symm) (fun hs_=>hk_.2.1 (by first|exact hs_|exact Or.inl hs_)) (fun hn_=>Nat.not_le.2 hk_.2.2 hn_)));replace HI0:=aA.mk (hi);replace HK:=aA.mk (cW.keepG (tp HK) hkp (fun k_ hs_=>Or.elim hs_ (fun hs_=>(fun e_ => .inr (Kd.R_base A1.out k_ e_.symm)) hs_) (fun e_ => .inl e_)));replace HB:=aA.mk (hb);clear A1;(try clear hb);(try clear hkp);(try clear ho0);obtain ⟨Ao33,co33,eo33⟩:=Kd.R_slice A2.out;subst eo33)|(go_at_call 96;(try simp only [aJ,aN]);(with_reducible refine (cI.calls k _ _ A4 false _ ?side1 ?side2 A15.out).mono ?_);(case side1=>exact cw (Kd.R_reads' A2.out).2.2);(case side2=>exact (Kd.R_reads' A2.out).2.1);rintro e w34 ⟨rfl,hb⟩;replace A0:=aA.mk (Kd.R_below (ra A0) hb);replace A2:=aA.mk (Kd.R_below (ra A2) hb);replace HK:=aA.mk (bI.trans (tp HK) (bI.of_below hb g none) (.inl rfl));replace HB:=aA.mk (aE (dX HB HI0) hb);replace HI0:=aA.mk (bK.below (dJ HI0) hb);(try clear hb);(try clear hb2);(try clear hk);(try clear hi))|((with_reducible refine bF (N:=29) rfl ?_);refine Kd.R_lit fL _ 99 ?hg (N:=29) ?hd (xs:=([(⟨1,1,0,0,0,0⟩:bL),(⟨20,1,0,0,1,0⟩:bL)]:List (bL))) (inner:=[.int .i64 1,.int .i64 1,.int .i64 0,.int .i64 0,.int .i64 0,.int .i64 0,.int .i64 20,.int .i64 1,.int .i64 0,.int .i64 0,.int .i64 1,.int .i64 0]) (ok:=fun _=>True) (okp:=fun _=>True) ?hr ?hp (fun _ hk=>hk) trivial (Below.refl _ _) (Nat.le_refl _) (by simp) ?_;(case hd=>rfl);(case hg=>rfl);(case hr=>first|(go_simp;done)|(go_simp;rfl));(case hp=>exact (cQ.c6 (show Kd.M fL _ _ _ (⟨1,1,0,0,0,0⟩:bL) [.int .i64 1,.int .i64 1,.int .i64 0,.int .i64 0,.int .i64 0,.int .i64 0] from (gS _ _ _ (⟨1,1,0,0,0,0⟩:bL) )) (cQ.c6 (show Kd.M fL _ _ _ (⟨20,1,0,0,1,0⟩:bL) [.int .i64 20,.int .i64 1,.int .i64 0,.int .i64 0,.int .i64 1,.int .i64 0] from (gS _ _ _ (⟨20,1,0,0,1,0⟩:bL) )) (cQ.none _ _))));intro v120 w35 ho36 hb hg_ hnew_;clear hg_ hnew_;(first|rw [← Ny119.out] at ho36|(simp only [Int.reduceToNat] at ho36;rw [← Ny119.out] at ho36));have Am:=aA.mk (Kd.R_lower (Kd.R_new' (Kd.R_new' ho36 (Kd.R_lt (ra A0))) (Kd.R_lt (ra A2))) (eQ (w:=w) (g:=g) (row:=none) (tp HK)));replace A0:=aA.mk (Kd.R_elder' (ra A0) (Kd.R_base ho36) hb);replace A2:=aA.mk (Kd.R_elder' (ra A2) (Kd.R_base ho36) hb);replace HK:=aA.mk (bI.trans (tp HK) (bI.of_below hb g none) (.inl rfl));replace HB:=aA.mk (aE (dX HB HI0) hb);replace HI0:=aA.mk (bK.below (dJ HI0) hb);clear hb ho36))
   go_ret;exact ⟨_,er,by (with_reducible repeat (first|apply Kd.R_alloc|apply Kd.R_drewN|apply Kd.R_drew));exact Kd.R_mono Am.out (fun _ hk=>trivial),dJ HI0,dX HB HI0,tp HK⟩
def gM.f (k:Nat) (l0:List (bL)):Option (Int × Bool):=(cI.f k l0).bind fun A6=>(if A6=true then ((cN.f k).bind fun A1=>((cO.f k l0 A1).bind fun bt105=>(some (bt105.1,bt105.2)))) else (some (0,false)))
theorem gM.calls (k:Nat) (A0:Option Addr) (c0:Nat) (l0:List (bL)) (r1:Int) (r2:Bool) (w:World) (hr0:Kd.C fL w A0 l0.length l0) (hc0:l0.length≤c0) (h:gM.f k l0=some (r1,r2)) :
  Calls Try.prog 50 #[.slice A0 l0.length c0] w fun e w'=>e = .returned (.tuple #[.int .i64 r1,.bool r2])∧Below w.heap.size w w':=by
 have HR0:=aA.mk hr0;have HC0:=aA.mk hc0;clear hr0 hc0;have HB:=aA.mk (Below.refl w.heap.size w);have H:((cI.f k l0).bind fun A6=>(if A6=true then ((cN.f k).bind fun A1=>((cO.f k l0 A1).bind fun bt105=>(some (bt105.1,bt105.2)))) else (some (0,false))))=some (r1,r2):=h;clear h;replace H:=ob H;obtain ⟨A6,A20,H⟩:=H
 try dsimp only at H
 have A2:=aA.mk A20;clear A20
 by_cases c3:A6=true
 ·subst c3
  have H1:((cN.f k).bind fun A1=>((cO.f k l0 A1).bind fun bt105=>(some (bt105.1,bt105.2))))=some (r1,r2):=by rw [if_pos rfl] at H;exact H
  clear H;have H:=H1;clear H1;replace H:=ob H;obtain ⟨A1,A40,H⟩:=H;replace H:((cO.f k l0 A1).bind fun bt105=>(some (bt105.1,bt105.2)))=some (r1,r2):=H;have A4:=aA.mk A40;clear A40;replace H:=ob H;obtain ⟨⟨A7,A8⟩,A50,H⟩:=H;replace H:(some (A7,A8))=some (r1,r2):=H;have A5:=aA.mk A50;clear A50;simp only [Option.some.injEq,Prod.mk.injEq] at H;obtain ⟨rfl,rfl⟩:=H
  go_enter Try.func50,Try.ntmps50
  go_wp2_with (first|((with_reducible refine aD (f:=96) rfl ?_);refine aI (some 5) rfl rfl Try.func96 (by kernel_rfl) rfl #[.slice A0 l0.length c0] rfl ml ?_;(with_reducible refine (cI.calls k _ _ l0 true _ ?side1 ?side2 A2.out).mono ?_);(case side1=>exact cw HR0.out);(case side2=>exact HC0.out);rintro e w6 ⟨rfl,hb⟩;refine ⟨_,rfl,?_⟩;replace HB:=aA.mk (aE (tb HB) hb);(try clear hb);(try clear hb2);(try clear hk);(try clear hi))|((with_reducible refine aD (f:=82) rfl ?_);refine aI (some 8) rfl rfl Try.func82 (by kernel_rfl) rfl #[] rfl ml ?_;(with_reducible refine (cN.calls k  A1 _ A4.out).mono ?_);rintro e w7 ⟨v103,rfl,ho0,hb⟩;refine ⟨_,rfl,?_⟩;have A3:=aA.mk (Kd.R_lower ho0 (aG (tb HB)));replace HB:=aA.mk (aE (tb HB) hb);(try clear hb);(try clear hb2);(try clear hk);(try clear hi);(try clear ho0);obtain ⟨Ao8,co8,eo8⟩:=Kd.R_slice A3.out;subst eo8)|((with_reducible refine aD (f:=47) rfl ?_);refine aI (some 9) rfl rfl Try.func47 (by kernel_rfl) rfl #[.slice A0 l0.length c0,.slice Ao8 A1.length co8] rfl ml ?_;(with_reducible refine (cO.calls k _ _ l0 _ _ A1 A7 A8 _ ?side1 ?side2 ?side3 ?side4 A5.out).mono ?_);(case side1=>exact cw (Kd.C_below HR0.out HB.out));(case side2=>exact HC0.out);(case side3=>exact cw (Kd.R_reads' A3.out).2.2);(case side4=>exact (Kd.R_reads' A3.out).2.1);rintro e w9 ⟨rfl,hb⟩;refine ⟨_,rfl,?_⟩;replace A3:=aA.mk (Kd.R_below (ra A3) hb);replace HB:=aA.mk (aE (tb HB) hb);(try clear hb);(try clear hb2);(try clear hk);(try clear hi)));go_ret2;exact ⟨er,tb HB⟩
 ·replace c3:=Bool.eq_false_iff.mpr c3;subst c3
  have H1:(some (0,false))=some (r1,r2):=by rw [if_neg (show ¬ (false=true) by decide)] at H;exact H
  clear H;have H:=H1;clear H1;simp only [Option.some.injEq,Prod.mk.injEq] at H;obtain ⟨rfl,rfl⟩:=H
  go_enter Try.func50,Try.ntmps50
  go_wp2_with (first|((with_reducible refine aD (f:=96) rfl ?_);refine aI (some 5) rfl rfl Try.func96 (by kernel_rfl) rfl #[.slice A0 l0.length c0] rfl ml ?_;(with_reducible refine (cI.calls k _ _ l0 false _ ?side1 ?side2 A2.out).mono ?_);(case side1=>exact cw HR0.out);(case side2=>exact HC0.out);rintro e w10 ⟨rfl,hb⟩;refine ⟨_,rfl,?_⟩;replace HB:=aA.mk (aE (tb HB) hb);(try clear hb);(try clear hb2);(try clear hk);(try clear hi)));go_ret2;exact ⟨er,tb HB⟩
end Go.Proofs.Ythipjoioicmcnaa.G
namespace Go.Proofs.Ythipjoioicmcnaa.Pure
open Go.RowKit Go.Proofs.Ythipjoioicmcnaa.G Go.Proofs.YthipjoioicmcnaaW.PrintWords Go.Proofs.YthipjoioicmcnaaW.PrintLast Go.Proofs.YthipjoioicmcnaaW.PrintMore
theorem gG (w:Nat) (h8:w≤8):1≤(2:Int) ^ w∧(2:Int) ^ w≤256:=by
 have:w=0∨w=1∨w=2∨w=3∨w=4∨w=5∨w=6∨w=7∨w=8:=by omega
 rcases this with rfl|rfl|rfl|rfl|rfl|rfl|rfl|rfl|rfl <;> decide
theorem uO (w:Nat) (h8:w≤8):IntKind.u64.wrap (w:Int)=(w:Int):=zF (by omega) (by omega)
theorem nC (w:Nat) (h8:w≤8):wrap64 (shl .i64 1 (w:Int) - 1)=(2:Int) ^ w - 1:=by
 rw [rC w (by omega)]
 have:=gG w h8
 unfold wrap64
 omega
theorem aFG (w:Nat) (h8:w≤8) (x:Int):Go.bits .and .i64 x ((2:Int) ^ w - 1)=x % (2:Int) ^ w:=by
 have hP:((2:Int) ^ w - 1)=((2 ^ w - 1:Nat):Int):=by
  have:1≤2 ^ w:=Nat.one_le_two_pow
  push_cast [this]
  rfl
 have hlt:2 ^ w - 1 < 2 ^ 64:=by
  have h1:2 ^ w≤2 ^ 8:=Nat.pow_le_pow_right (by decide) h8
  have h2:(2:Nat) ^ 8 < 2 ^ 64:=by decide
  omega
 have hx:((BitVec.ofInt 64 x).toNat &&& (2 ^ w - 1))=(x % (2:Int) ^ w).toNat:=by
  rw [Nat.and_two_pow_sub_one_eq_mod,BitVec.toNat_ofInt]
  have hd:((2 ^ w:Nat):Int) ∣ ((2 ^ 64:Nat):Int):=by exact_mod_cast Nat.pow_dvd_pow 2 (by omega)
  have h0:0≤x % ((2 ^ 64:Nat):Int):=Int.emod_nonneg _ (by decide)
  have e:(((x % ((2 ^ 64:Nat):Int)).toNat % 2 ^ w:Nat):Int)=x % (2:Int) ^ w:=by
   rw [Int.natCast_emod,Int.toNat_of_nonneg h0,Int.emod_emod_of_dvd _ hd]
   push_cast
   rfl
  rw [← e,Int.toNat_natCast]
 have hn:0≤x % (2:Int) ^ w:=Int.emod_nonneg _ (by have:=gG w h8;omega)
 have hl:x % (2:Int) ^ w < (2:Int) ^ w:=Int.emod_lt_of_pos _ (by have:=gG w h8;omega)
 have hb:(BitVec.ofInt 64 ((2 ^ w - 1:Nat):Int)).toNat=2 ^ w - 1:=by
  rw [BitVec.ofInt_natCast,BitVec.toNat_ofNat,Nat.mod_eq_of_lt hlt]
 rw [hP]
 unfold Go.bits
 show IntKind.i64.wrap (((BitVec.ofInt 64 x) &&& (BitVec.ofInt 64 ((2 ^ w - 1:Nat):Int))).toNat:Int)=_
 rw [BitVec.toNat_and,hb,hx,Int.toNat_of_nonneg hn]
 exact jI _ hn (by have:=gG w h8;omega)
theorem pO (w:Nat) (h8:w≤8) (x:Int):dO.f (w:Int) x=some (x % (2:Int) ^ w):=by
 unfold dO.f
 rw [uO w h8,if_pos (by omega),nC w h8,aFG w h8]
theorem gW (w:Nat) (h8:w≤8):Ev (fun k=>aH.f k (w:Int)) ((2:Int) ^ w):=jT w (fun k hk=>jU w (by omega) k hk)
def iA (w:Nat) (a:Int):Bool:=decide (0≤a∧a < (2:Int) ^ w)
theorem mN (w:Nat) (h1:1≤w) (h8:w≤8) (a:Int):cY.f (w:Int) a=some (iA w a):=by
 have hp:=gG w h8
 unfold cY.f cS.f cA.f
 rw [if_pos (show (w:Int) ≥ 1 by omega)]
 simp only [Option.bind_some]
 rw [show decide ((w:Int)≤8)=true from decide_eq_true (by omega),if_pos rfl,uO w h8,if_pos (by omega),nC w h8]
 unfold iA
 by_cases h:a ≥ 0
 ·rw [if_pos h]
  simp only [Option.bind_some]
  congr 1
  rw [decide_eq_decide]
  omega
 ·rw [if_neg h]
  simp only [Option.bind_some]
  congr 1
  exact (decide_eq_false (by omega)).symm
theorem pG (x a b:Int):bB.f x a b=some (decide (a≤x∧x≤b)):=by
 unfold bB.f
 by_cases h:x ≥ a
 ·rw [if_pos h]
  congr 1
  rw [decide_eq_decide]
  omega
 ·rw [if_neg h]
  congr 1
  exact (decide_eq_false (by omega)).symm
theorem jY (x a b:Int):cA.f x a b=some (decide (a≤x∧x≤b)):=by
 unfold cA.f
 by_cases h:x ≥ a
 ·rw [if_pos h]
  congr 1
  rw [decide_eq_decide]
  omega
 ·rw [if_neg h]
  congr 1
  exact (decide_eq_false (by omega)).symm
theorem kU (w:Nat) (h1:1≤w) (h8:w≤8) (a:Int):Ev (fun k=>bT.f k (w:Int) a) (iA w a):=by
 have hp:=gG w h8
 refine rT (f:=fun k=>(aH.f k (w:Int)).bind fun t102=>((bB.f a 0 (wrap64 (t102 - 1))).bind fun t103=>(some t103))) (fun k=>?_) ?_
 ·unfold bT.f
  rw [pG,show decide ((1:Int)≤(w:Int)∧(w:Int)≤8)=true from decide_eq_true (by omega)]
  simp only [Option.bind_some]
  rw [if_pos trivial]
 ·refine bC (gW w h8) ?_
  rw [pG]
  simp only [Option.bind_some]
  rw [show decide (0≤a∧a≤wrap64 ((2:Int) ^ w - 1))=iA w a from by
   unfold iA wrap64
   rw [decide_eq_decide]
   omega]
  exact bA _
theorem tB (w:Nat) (h1:1≤w) (h8:w≤8) (a b:Int):cR.f (w:Int) a b=some (iA w a && iA w b):=by
 unfold cR.f
 rw [mN w h1 h8,mN w h1 h8]
 simp only [Option.bind_some]
 cases iA w a <;> simp
theorem xA (w:Nat) (h1:1≤w) (h8:w≤8) (a b:Int):Ev (fun k=>bY.f k (w:Int) a b) (iA w a && iA w b):=by
 refine bC (f:=fun k t101=>if t101=true then ((bT.f k (w:Int) b).bind fun t102=>(some t102)) else (some false)) (kU w h1 h8 a) ?_
 cases iA w a with
 | false=>exact bA _
 | true =>
  simp only [if_true,Bool.true_and]
  exact bC (f:=fun _ t=>some t) (kU w h1 h8 b) (bA _)
def lD (x:Option Int) (y:Nat→Option Int):Prop:=∃ v,x=some v∧Ev y v
theorem kT (w:Nat) (h1:1≤w) (h8:w≤8) (a b:Int) (I:Option Int) (S:Nat→Option Int) (z:Int) (h:0≤a→a < (2:Int) ^ w→0≤b→b < (2:Int) ^ w→lD I S) :
  lD ((cR.f (w:Int) a b).bind fun t=>if t=true then I else some z) (fun k=>(bY.f k (w:Int) a b).bind fun t=>if t=true then S k else some z):=by
 by_cases hok:(iA w a && iA w b)=true
 ·have hh:=hok
  simp only [Bool.and_eq_true,iA,decide_eq_true_eq] at hh
  obtain ⟨v,e1,e2⟩:=h hh.1.1 hh.1.2 hh.2.1 hh.2.2
  refine ⟨v,?_,?_⟩
  ·rw [tB w h1 h8,hok]
   exact e1
  ·refine bC (f:=fun k t=>if t=true then S k else some z) (xA w h1 h8 a b) ?_
   rw [hok]
   exact e2
 ·have h':(iA w a && iA w b)=false:=by simpa using hok
  refine ⟨z,?_,?_⟩
  ·rw [tB w h1 h8,h']
   rfl
  ·refine bC (f:=fun k t=>if t=true then S k else some z) (xA w h1 h8 a b) ?_
   rw [h']
   exact bA _
theorem tA (w:Nat) (h1:1≤w) (h8:w≤8) (a:Int) (I:Option Int) (S:Nat→Option Int) (z:Int) (h:0≤a→a < (2:Int) ^ w→lD I S) :
  lD ((cY.f (w:Int) a).bind fun t=>if t=true then I else some z) (fun k=>(bT.f k (w:Int) a).bind fun t=>if t=true then S k else some z):=by
 by_cases hok:iA w a=true
 ·have hh:=hok
  simp only [iA,decide_eq_true_eq] at hh
  obtain ⟨v,e1,e2⟩:=h hh.1 hh.2
  refine ⟨v,?_,?_⟩
  ·rw [mN w h1 h8,hok]
   exact e1
  ·refine bC (f:=fun k t=>if t=true then S k else some z) (kU w h1 h8 a) ?_
   rw [hok]
   exact e2
 ·have h':iA w a=false:=by simpa using hok
  refine ⟨z,?_,?_⟩
  ·rw [mN w h1 h8,h']
   rfl
  ·refine bC (f:=fun k t=>if t=true then S k else some z) (kU w h1 h8 a) ?_
   rw [h']
   exact bA _
theorem aFF (w:Nat) (h1:1≤w) (h8:w≤8) (a b:Int):lD (kB.f (w:Int) a b) (fun k=>kL.f k (w:Int) a b):=by
 have hp:=gG w h8
 refine kT w h1 h8 a b _ (fun k=>(aH.f k (w:Int)).bind fun t102=>(if t102=0 then (none) else (some (Int.tmod (wrap64 (a + b)) t102)))) 0 (fun a0 a1 b0 b1=>⟨(a + b) % (2:Int) ^ w,?_,?_⟩)
 ·rw [pO w h8,show wrap64 (a + b)=a + b from by unfold wrap64;omega]
  rfl
 ·refine bC (f:=fun _ t102=>if t102=0 then (none) else (some (Int.tmod (wrap64 (a + b)) t102))) (gW w h8) ?_
  rw [if_neg (by omega),show wrap64 (a + b)=a + b from by unfold wrap64;omega,Int.tmod_eq_emod_of_nonneg (by omega)]
  exact bA _
theorem aFM (w:Nat) (h1:1≤w) (h8:w≤8) (a b:Int):lD (kH.f (w:Int) a b) (fun k=>kQ.f k (w:Int) a b):=by
 have hp:=gG w h8
 refine kT w h1 h8 a b _ (fun k=>(aH.f k (w:Int)).bind fun t102=>((aH.f k (w:Int)).bind fun t103=>(if t103=0 then (none) else (some (Int.tmod (wrap64 ((wrap64 (a + t102)) - b)) t103))))) 0 (fun a0 a1 b0 b1=>⟨(a - b) % (2:Int) ^ w,?_,?_⟩)
 ·rw [pO w h8,show wrap64 (a - b)=a - b from by unfold wrap64;omega]
  rfl
 ·refine bC (f:=fun k t102=>(aH.f k (w:Int)).bind fun t103=>(if t103=0 then (none) else (some (Int.tmod (wrap64 ((wrap64 (a + t102)) - b)) t103)))) (gW w h8) ?_
  refine bC (f:=fun _ t103=>if t103=0 then (none) else (some (Int.tmod (wrap64 ((wrap64 (a + (2:Int) ^ w)) - b)) t103))) (gW w h8) ?_
  rw [if_neg (by omega),show wrap64 (wrap64 (a + (2:Int) ^ w) - b)=(a - b) + (2:Int) ^ w from by unfold wrap64;omega,Int.tmod_eq_emod_of_nonneg (by omega),Int.add_emod_right]
  exact bA _
theorem aFI (w:Nat) (h1:1≤w) (h8:w≤8) (a b:Int):lD (kD.f (w:Int) a b) (fun k=>kN.f k (w:Int) a b):=by
 have hp:=gG w h8
 refine kT w h1 h8 a b _ (fun k=>(aH.f k (w:Int)).bind fun t102=>(if t102=0 then (none) else (some (Int.tmod (wrap64 (a * b)) t102)))) 0 (fun a0 a1 b0 b1=>⟨(a * b) % (2:Int) ^ w,?_,?_⟩)
 ·have hm:0≤a * b:=Int.mul_nonneg a0 b0
  have hM:a * b≤256 * 256:=Int.mul_le_mul (by omega) (by omega) b0 (by omega)
  rw [pO w h8,show wrap64 (a * b)=a * b from by unfold wrap64;omega]
  rfl
 ·have hm:0≤a * b:=Int.mul_nonneg a0 b0
  have hM:a * b≤256 * 256:=Int.mul_le_mul (by omega) (by omega) b0 (by omega)
  refine bC (f:=fun _ t102=>if t102=0 then (none) else (some (Int.tmod (wrap64 (a * b)) t102))) (gW w h8) ?_
  rw [if_neg (by omega),show wrap64 (a * b)=a * b from by unfold wrap64;omega,Int.tmod_eq_emod_of_nonneg hm]
  exact bA _
theorem aFH (w:Nat) (h1:1≤w) (h8:w≤8) (a b:Int):lD (kC.f (w:Int) a b) (fun k=>kM.f k (w:Int) a b):=by
 have hp:=gG w h8
 refine kT w h1 h8 a b _ (fun k=>if b=0 then ((aH.f k (w:Int)).bind fun t102=>(some (wrap64 (t102 - 1)))) else (some (wrap64 (Int.tdiv a b)))) 0 (fun a0 a1 b0 b1=>?_)
 by_cases hb:b=0
 ·rw [if_pos hb]
  simp only [if_pos hb]
  rw [uO w h8,if_pos (by omega),nC w h8]
  refine ⟨_,rfl,bC (f:=fun _ t102=>some (wrap64 (t102 - 1))) (gW w h8) ?_⟩
  rw [show wrap64 ((2:Int) ^ w - 1)=(2:Int) ^ w - 1 from by unfold wrap64;omega]
  exact bA _
 ·rw [if_neg hb]
  simp only [if_neg hb]
  exact ⟨_,rfl,bA _⟩
theorem aFJ (w:Nat) (h1:1≤w) (h8:w≤8) (a b:Int):lD (kE.f (w:Int) a b) (fun k=>kO.f k (w:Int) a b):=by
 refine kT w h1 h8 a b _ (fun k=>if b=0 then some a else (some (Int.tmod a b))) 0 (fun a0 a1 b0 b1=>?_)
 by_cases hb:b=0
 ·rw [if_pos hb]
  try simp only [if_pos hb]
  exact ⟨_,rfl,bA _⟩
 ·rw [if_neg hb]
  try simp only [if_neg hb]
  exact ⟨_,rfl,bA _⟩
theorem aCV (w:Nat) (h1:1≤w) (h8:w≤8) (a:Int):lD (iH.f (w:Int) a) (fun k=>iI.f k (w:Int) a):=by
 have hp:=gG w h8
 refine tA w h1 h8 a _ (fun k=>(aH.f k (w:Int)).bind fun t102=>(some (wrap64 ((wrap64 (t102 - 1)) - a)))) 0 (fun a0 a1=>?_)
 rw [uO w h8,if_pos (by omega),nC w h8]
 refine ⟨_,rfl,bC (f:=fun _ t102=>some (wrap64 ((wrap64 (t102 - 1)) - a))) (gW w h8) ?_⟩
 rw [show wrap64 ((2:Int) ^ w - 1)=(2:Int) ^ w - 1 from by unfold wrap64;omega]
 exact bA _
theorem aFL (w:Nat) (h1:1≤w) (h8:w≤8) (a b:Int):lD (kG.f (w:Int) a b) (fun k=>kP.f k (w:Int) a b):=by
 have hp:=gG w h8
 refine kT w h1 h8 a b _ (fun k=>if b ≥ (w:Int) then some 0 else ((aH.f k b).bind fun t102=>(if t102=0 then (none) else (some (wrap64 (Int.tdiv a t102)))))) 0 (fun a0 a1 b0 b1=>?_)
 by_cases hb:b ≥ (w:Int)
 ·rw [if_pos hb]
  simp only [if_pos hb]
  exact ⟨_,rfl,bA _⟩
 ·rw [if_neg hb]
  simp only [if_neg hb]
  obtain ⟨j,rfl⟩:=Int.eq_ofNat_of_zero_le b0
  obtain ⟨x,rfl⟩:=Int.eq_ofNat_of_zero_le a0
  have hj:j≤8:=by omega
  have hq:=gG j hj
  rw [uO j hj,if_pos (by omega),rE x j (by omega)]
  refine ⟨_,rfl,bC (f:=fun _ t102=>if t102=0 then (none) else (some (wrap64 (Int.tdiv (x:Int) t102)))) (gW j hj) ?_⟩
  rw [if_neg (by omega),Int.tdiv_eq_ediv_of_nonneg (by omega)]
  have e:(x:Int) / (2:Int) ^ j=((x / 2 ^ j:Nat):Int):=by push_cast;rfl
  have hle:x / 2 ^ j≤x:=Nat.div_le_self _ _
  rw [e]
  generalize x / 2 ^ j=q at hle ⊢
  rw [show wrap64 (q:Int)=(q:Int) from by unfold wrap64;omega]
  exact bA _
theorem aFK (w:Nat) (h1:1≤w) (h8:w≤8) (a b:Int):lD (kF.f (w:Int) a b) (fun k=>eK.f k (w:Int) a b):=by
 have hp:=gG w h8
 have key:=kT w h1 h8 a b (if b ≥ (w:Int) then (some 0) else (if 0≤(IntKind.u64.wrap b) then ((dO.f (w:Int) (shl .i64 a (IntKind.u64.wrap b))).bind fun t102=>(some t102)) else (none))) (fun k=>eK.j0 k (w:Int) a b (decide (b ≥ (w:Int)))) 0 (fun a0 a1 b0 b1=>by
  by_cases hb:b ≥ (w:Int)
  ·rw [if_pos hb]
   refine ⟨0,rfl,aZ ?_⟩
   simp only [eK.j0,decide_eq_true hb,if_true]
   exact bA _
  ·rw [if_neg hb]
   obtain ⟨j,rfl⟩:=Int.eq_ofNat_of_zero_le b0
   obtain ⟨x,rfl⟩:=Int.eq_ofNat_of_zero_le a0
   have hj:j≤8:=by omega
   have hq:=gG j hj
   have hx:x≤255:=by omega
   have hj2:2 ^ j≤256:=Nat.le_trans (Nat.pow_le_pow_right (by decide) hj) (by decide)
   have hm:x * 2 ^ j≤255 * 256:=Nat.mul_le_mul hx hj2
   rw [uO j hj,if_pos (by omega),rD x j (by omega) (by omega),pO w h8]
   refine ⟨_,rfl,aZ ?_⟩
   simp only [eK.j0,decide_eq_false hb,Bool.false_eq_true,if_false]
   refine bC (f:=fun k t102=>(aH.f k (w:Int)).bind fun t103=>(if t103=0 then (none) else (some (Int.tmod (wrap64 ((x:Int) * t102)) t103)))) (gW j hj) ?_
   refine bC (f:=fun _ t103=>if t103=0 then (none) else (some (Int.tmod (wrap64 ((x:Int) * (2:Int) ^ j)) t103))) (gW w h8) ?_
   have e:(x:Int) * (2:Int) ^ j=((x * 2 ^ j:Nat):Int):=by push_cast;rfl
   rw [if_neg (by omega),e,show wrap64 ((x * 2 ^ j:Nat):Int)=((x * 2 ^ j:Nat):Int) from by unfold wrap64;omega,Int.tmod_eq_emod_of_nonneg (by omega)]
   exact bA _)
 obtain ⟨v,e1,e2⟩:=key
 refine ⟨v,e1,?_⟩
 obtain ⟨K,e2⟩:=e2
 refine ⟨K + 1,fun k hk=>?_⟩
 have h:=e2 k (by omega)
 obtain ⟨m,rfl⟩:∃ m,k=m + 1:=⟨k - 1,by omega⟩
 have hz:eK.j0 (m + 1) (w:Int) a b true=some 0:=by simp [eK.j0]
 show ((bY.f (m + 1) (w:Int) a b).bind fun t101=>if t101=true then eK.j0 (m + 1) (w:Int) a b (decide (b ≥ (w:Int))) else eK.j0 (m + 1) (w:Int) a b true)=some v
 rw [hz]
 exact h
theorem wZ (t:Bool):cZ.f t=cP.f t:=rfl
theorem sZ (t:Bool):∃ v,cZ.f t=some v:=by cases t <;> exact ⟨_,rfl⟩
theorem rO (w:Nat) (h1:1≤w) (h8:w≤8) (a:Int):lD (eV.f (w:Int) a) (fun k=>eR.f k (w:Int) a):=by
 have hp:=gG w h8
 refine tA w h1 h8 a _ (fun k=>(aH.f k (wrap64 ((w:Int) - 1))).bind fun t102=>(if a ≥ t102 then ((aH.f k (w:Int)).bind fun t103=>(some (wrap64 (a - t103)))) else (some a))) 0 (fun a0 a1=>?_)
 obtain ⟨j,rfl⟩:∃ j,w=j + 1:=⟨w - 1,by omega⟩
 have hj:j≤8:=by omega
 rw [show wrap64 (((j + 1:Nat):Int) - 1)=(j:Int) from by unfold wrap64;omega,uO j hj,uO (j + 1) h8,if_pos (by omega),rC j (by omega),rC (j + 1) (by omega)]
 by_cases hc:a ≥ (2:Int) ^ j
 ·rw [if_pos hc,if_pos (by omega)]
  refine ⟨_,rfl,bC (f:=fun k t102=>if a ≥ t102 then ((aH.f k ((j + 1:Nat):Int)).bind fun t103=>(some (wrap64 (a - t103)))) else (some a)) (gW j hj) ?_⟩
  simp only [if_pos hc]
  exact bC (f:=fun _ t103=>some (wrap64 (a - t103))) (gW (j + 1) h8) (bA _)
 ·rw [if_neg hc]
  refine ⟨_,rfl,bC (f:=fun k t102=>if a ≥ t102 then ((aH.f k ((j + 1:Nat):Int)).bind fun t103=>(some (wrap64 (a - t103)))) else (some a)) (gW j hj) ?_⟩
  simp only [if_neg hc]
  exact bA _
theorem aCW (w:Nat) (h1:1≤w) (h8:w≤8) (a b:Int):lD (gR.f (w:Int) a b) (fun k=>jH.f k (w:Int) a b):=by
 refine kT w h1 h8 a b ((cZ.f (decide (a < b))).bind fun t102=>(some t102)) (fun k=>(cP.f (decide (a < b))).bind fun t102=>(some t102)) 0 (fun a0 a1 b0 b1=>?_)
 obtain ⟨v,hv⟩:=sZ (decide (a < b))
 have hs:=(wZ (decide (a < b))).symm.trans hv
 exact ⟨v,by rw [hv];rfl,by rw [hs];exact bA _⟩
theorem qE (w:Nat) (h1:1≤w) (h8:w≤8) (a b:Int):lD (eX.f (w:Int) a b) (fun k=>fP.f k (w:Int) a b):=by
 refine kT w h1 h8 a b ((eV.f (w:Int) a).bind fun t102=>((eV.f (w:Int) b).bind fun t103=>((cZ.f (decide (t102 < t103))).bind fun t104=>(some t104)))) (fun k=>(eR.f k (w:Int) a).bind fun t102=>((eR.f k (w:Int) b).bind fun t103=>((cP.f (decide (t102 < t103))).bind fun t104=>(some t104)))) 0 (fun a0 a1 b0 b1=>?_)
 obtain ⟨x,e1,e2⟩:=rO w h1 h8 a
 obtain ⟨y,e3,e4⟩:=rO w h1 h8 b
 obtain ⟨v,hv⟩:=sZ (decide (x < y))
 have hs:=(wZ (decide (x < y))).symm.trans hv
 refine ⟨v,by rw [e1,e3];simp only [Option.bind_some];rw [hv];rfl,?_⟩
 refine bC (f:=fun k t102=>(eR.f k (w:Int) b).bind fun t103=>((cP.f (decide (t102 < t103))).bind fun t104=>(some t104))) e2 ?_
 refine bC (f:=fun k t103=>(cP.f (decide (x < t103))).bind fun t104=>(some t104)) e4 ?_
 rw [hs]
 exact bA _
theorem zX (w:Nat) (h1:1≤w) (h8:w≤8) (n:Nat) (n1:1≤n) (n8:n≤8) (a low:Int) (hl : -9223372036854775808≤low∧low≤9223372036854775807):lD (gI.f (w:Int) a low (n:Int)) (fun k=>dE.f k (w:Int) a low (n:Int)):=by
 have hp:=gG w h8
 have key:=tA w h1 h8 a ((cA.f (n:Int) 1 (w:Int)).bind fun t102=>(if t102=true then ((cA.f low 0 (wrap64 ((w:Int) - (n:Int)))).bind fun t103=>(if t103=true then (if 0≤(IntKind.u64.wrap (low)) then ((dO.f (n:Int) (shr .i64 a (IntKind.u64.wrap (low)))).bind fun t104=>(some t104)) else (none)) else (some 0))) else (some 0))) (fun k=>if low < 0 then (dE.j0 k a low (n:Int) true) else ((bB.f (n:Int) 1 (wrap64 ((w:Int) - low))).bind fun t102=>(dE.j0 k a low (n:Int) (!t102)))) 0 (fun a0 a1=>by
  simp only [jY,pG,Option.bind_some]
  have stop:Ev (fun k=>dE.j0 k a low (n:Int) true) 0:=aZ (by simp only [dE.j0,if_true];exact bA _)
  by_cases hr:0≤low∧low + (n:Int)≤(w:Int)
  ·rw [decide_eq_true (show (1:Int)≤(n:Int)∧(n:Int)≤(w:Int) by omega),if_pos rfl,decide_eq_true (show (0:Int)≤low∧low≤wrap64 ((w:Int) - (n:Int)) by unfold wrap64;omega),if_pos rfl]
   obtain ⟨j,rfl⟩:=Int.eq_ofNat_of_zero_le hr.1
   obtain ⟨x,rfl⟩:=Int.eq_ofNat_of_zero_le a0
   have hj:j≤8:=by omega
   have hq:=gG j hj
   have hn:=gG n n8
   simp only [if_neg (show ¬ (j:Int) < 0 by omega)]
   rw [decide_eq_true (show (1:Int)≤(n:Int)∧(n:Int)≤wrap64 ((w:Int) - (j:Int)) by unfold wrap64;omega),uO j hj,if_pos (by omega),rE x j (by omega),pO n n8]
   refine ⟨_,rfl,aZ ?_⟩
   simp only [dE.j0,Bool.not_true,Bool.false_eq_true,if_false]
   refine bC (f:=fun k t103=>if t103=0 then (none) else ((aH.f k (n:Int)).bind fun t104=>(if t104=0 then (none) else (some (Int.tmod (wrap64 (Int.tdiv (x:Int) t103)) t104))))) (gW j hj) ?_
   simp only [if_neg (show ¬ (2:Int) ^ j=0 by omega)]
   refine bC (f:=fun k t104=>if t104=0 then (none) else (some (Int.tmod (wrap64 (Int.tdiv (x:Int) ((2:Int) ^ j))) t104))) (gW n n8) ?_
   rw [if_neg (by omega),Int.tdiv_eq_ediv_of_nonneg (by omega)]
   have e:(x:Int) / (2:Int) ^ j=((x / 2 ^ j:Nat):Int):=by push_cast;rfl
   have hle:x / 2 ^ j≤x:=Nat.div_le_self _ _
   rw [e]
   generalize x / 2 ^ j=q at hle ⊢
   rw [show wrap64 (q:Int)=(q:Int) from by unfold wrap64;omega,Int.tmod_eq_emod_of_nonneg (by omega)]
   exact bA _
  ·refine ⟨0,?_,?_⟩
   ·by_cases hn:(1:Int)≤(n:Int)∧(n:Int)≤(w:Int)
    ·rw [decide_eq_true hn,if_pos rfl,decide_eq_false (show ¬ ((0:Int)≤low∧low≤wrap64 ((w:Int) - (n:Int))) by unfold wrap64;omega),if_neg (by decide)]
    ·rw [decide_eq_false hn,if_neg (by decide)]
   ·by_cases hz:low < 0
    ·simp only [if_pos hz]
     exact stop
    ·simp only [if_neg hz]
     rw [decide_eq_false (show ¬ ((1:Int)≤(n:Int)∧(n:Int)≤wrap64 ((w:Int) - low)) by unfold wrap64;omega)]
     exact stop)
 obtain ⟨v,e1,e2⟩:=key
 refine ⟨v,e1,?_⟩
 obtain ⟨K,e2⟩:=e2
 refine ⟨K + 1,fun k hk=>?_⟩
 have h:=e2 k (by omega)
 obtain ⟨m,rfl⟩:∃ m,k=m + 1:=⟨k - 1,by omega⟩
 have hz:dE.j0 (m + 1) a low (n:Int) true=some 0:=by simp [dE.j0]
 show ((bT.f (m + 1) (w:Int) a).bind fun t101=>if t101=true then (if low < 0 then (dE.j0 (m + 1) a low (n:Int) true) else ((bB.f (n:Int) 1 (wrap64 ((w:Int) - low))).bind fun t102=>(dE.j0 (m + 1) a low (n:Int) (!t102)))) else dE.j0 (m + 1) a low (n:Int) true)=some v
 rw [hz]
 dsimp only at h
 rw [hz] at h
 exact h
def apG (W w a b c:Int):Bool:=decide (1≤W∧W≤8) && (decide (1≤w∧w≤8) && (decide (0≤a∧a≤255) && (decide (0≤b∧b≤255) && decide (0≤c∧c≤255))))
theorem apI (k:Nat) (o W K A B C w a b c:Int):bJ.f k o W K A B C w a b c=bJ.j0 k w a b c (!apG W w a b c) o W K A B C:=by
 simp only [bJ.f,cS.f,dL.f,jY,Option.bind_some,apG]
 cases decide (1≤W∧W≤8) <;> cases decide (1≤w∧w≤8) <;> cases decide (0≤a∧a≤255) <;> cases decide (0≤b∧b≤255) <;> cases decide (0≤c∧c≤255) <;> rfl
theorem apS (k:Nat) (o W K A B C w a b c:Int):bS.f k o W K A B C w a b c=bS.j0 k w a b c (!apG W w a b c) o W K A B C:=by
 simp only [bS.f,pG,Option.bind_some,apG]
 cases decide (1≤W∧W≤8) <;> cases decide (1≤w∧w≤8) <;> cases decide (0≤a∧a≤255) <;> cases decide (0≤b∧b≤255) <;> cases decide (0≤c∧c≤255) <;> rfl
theorem lD.both {I:Option Int} {S:Nat→Option Int} (h:lD I S):∃ v,Ev (fun _=>I.bind fun t=>some t) v∧Ev (fun k=>(S k).bind fun t=>some t) v:=by
 obtain ⟨v,e1,e2⟩:=h
 exact ⟨v,by rw [e1];exact bA _,bC (f:=fun _ t=>some t) e2 (bA _)⟩
theorem uN (o W K A B C w a b c:Int) (hK : -9223372036854775808≤K∧K≤9223372036854775807):∃ v,Ev (fun k=>bJ.f k o W K A B C w a b c) v∧Ev (fun k=>bS.f k o W K A B C w a b c) v:=by
 simp only [apI,apS]
 cases hg:apG W w a b c with
 | false=>exact ⟨0,aZ (by simp only [bJ.j0,Bool.not_false,if_true];exact bA _),aZ (by simp only [bS.j0,Bool.not_false,if_true];exact bA _)⟩
 | true =>
  simp only [apG,Bool.and_eq_true,decide_eq_true_eq] at hg
  obtain ⟨hW,hw,ha,hb,hc⟩:=hg
  obtain ⟨n,rfl⟩:=Int.eq_ofNat_of_zero_le (show 0≤W by omega)
  obtain ⟨u,rfl⟩:=Int.eq_ofNat_of_zero_le (show 0≤w by omega)
  have n1:1≤n:=by omega
  have n8:n≤8:=by omega
  have u1:1≤u:=by omega
  have u8:u≤8:=by omega
  suffices h:∃ v,Ev (fun k=>bJ.j0 (k + 1) (u:Int) a b c (!true) o (n:Int) K A B C) v∧Ev (fun k=>bS.j0 (k + 1) (u:Int) a b c (!true) o (n:Int) K A B C) v by
   obtain ⟨v,e1,e2⟩:=h
   exact ⟨v,aZ e1,aZ e2⟩
  simp only [bJ.j0,bS.j0,Bool.not_true,Bool.false_eq_true,if_false,jY,Option.bind_some]
  by_cases h0:o=0
  ·simp only [if_pos h0]
   exact ⟨_,bA _,bA _⟩
  simp only [if_neg h0]
  by_cases h2:o=2
  ·simp only [if_pos h2]
   exact (aCV n n1 n8 a).both
  simp only [if_neg h2]
  by_cases h3:o=3
  ·subst h3
   simp only [eF.f,show decide ((3:Int)≤3∧(3:Int)≤12)=true from rfl,if_true,Option.bind_some]
   exact ⟨_,bA _,bA _⟩
  by_cases h4:o=4
  ·subst h4
   simp only [eF.f,show decide ((3:Int)≤4∧(4:Int)≤12)=true from rfl,if_true,Option.bind_some,if_neg h3]
   exact ⟨_,bA _,bA _⟩
  by_cases h5:o=5
  ·subst h5
   simp only [eF.f,show decide ((3:Int)≤5∧(5:Int)≤12)=true from rfl,if_true,Option.bind_some,if_neg h3,if_neg h4]
   exact ⟨_,bA _,bA _⟩
  by_cases h6:o=6
  ·subst h6
   simp only [eF.f,show decide ((3:Int)≤6∧(6:Int)≤12)=true from rfl,if_true,Option.bind_some,if_neg h3,if_neg h4,if_neg h5]
   obtain ⟨v,e1,e2⟩:=aFF n n1 n8 a b
   exact ⟨v,by rw [e1];exact bA _,bC (f:=fun _ t=>some t) e2 (bA _)⟩
  by_cases h7:o=7
  ·subst h7
   simp only [eF.f,show decide ((3:Int)≤7∧(7:Int)≤12)=true from rfl,if_true,Option.bind_some,if_neg h3,if_neg h4,if_neg h5,if_neg h6]
   obtain ⟨v,e1,e2⟩:=aFM n n1 n8 a b
   exact ⟨v,by rw [e1];exact bA _,bC (f:=fun _ t=>some t) e2 (bA _)⟩
  by_cases h8:o=8
  ·subst h8
   simp only [eF.f,show decide ((3:Int)≤8∧(8:Int)≤12)=true from rfl,if_true,Option.bind_some,if_neg h3,if_neg h4,if_neg h5,if_neg h6,if_neg h7]
   obtain ⟨v,e1,e2⟩:=aFI n n1 n8 a b
   exact ⟨v,by rw [e1];exact bA _,bC (f:=fun _ t=>some t) e2 (bA _)⟩
  by_cases h9:o=9
  ·subst h9
   simp only [eF.f,show decide ((3:Int)≤9∧(9:Int)≤12)=true from rfl,if_true,Option.bind_some,if_neg h3,if_neg h4,if_neg h5,if_neg h6,if_neg h7,if_neg h8]
   obtain ⟨v,e1,e2⟩:=aFH n n1 n8 a b
   exact ⟨v,by rw [e1];exact bA _,bC (f:=fun _ t=>some t) e2 (bA _)⟩
  by_cases h10:o=10
  ·subst h10
   simp only [eF.f,show decide ((3:Int)≤10∧(10:Int)≤12)=true from rfl,if_true,Option.bind_some,if_neg h3,if_neg h4,if_neg h5,if_neg h6,if_neg h7,if_neg h8,if_neg h9]
   obtain ⟨v,e1,e2⟩:=aFJ n n1 n8 a b
   exact ⟨v,by rw [e1];exact bA _,bC (f:=fun _ t=>some t) e2 (bA _)⟩
  by_cases h11:o=11
  ·subst h11
   simp only [eF.f,show decide ((3:Int)≤11∧(11:Int)≤12)=true from rfl,if_true,Option.bind_some,if_neg h3,if_neg h4,if_neg h5,if_neg h6,if_neg h7,if_neg h8,if_neg h9,if_neg h10]
   obtain ⟨v,e1,e2⟩:=aFK n n1 n8 a b
   exact ⟨v,by rw [e1];exact bA _,bC (f:=fun _ t=>some t) e2 (bA _)⟩
  by_cases h12:o=12
  ·subst h12
   simp only [eF.f,show decide ((3:Int)≤12∧(12:Int)≤12)=true from rfl,if_true,Option.bind_some,if_neg h3,if_neg h4,if_neg h5,if_neg h6,if_neg h7,if_neg h8,if_neg h9,if_neg h10,if_neg h11]
   obtain ⟨v,e1,e2⟩:=aFL n n1 n8 a b
   exact ⟨v,by rw [e1];exact bA _,bC (f:=fun _ t=>some t) e2 (bA _)⟩
  simp only [if_neg h3,if_neg h4,if_neg h5,if_neg h6,if_neg h7,if_neg h8,if_neg h9,if_neg h10,if_neg h11,if_neg h12]
  rw [show decide ((3:Int)≤o∧o≤12)=false from decide_eq_false (by omega)]
  simp only [Bool.false_eq_true,if_false]
  by_cases h13:o=13
  ·simp only [if_pos h13]
   obtain ⟨v,hv⟩:=sZ (a == b)
   have hs:=(wZ (a == b)).symm.trans hv
   exact ⟨v,by rw [hv];exact bA _,by rw [hs];exact bA _⟩
  simp only [if_neg h13]
  by_cases h14:o=14
  ·simp only [if_pos h14]
   exact (aCW u u1 u8 a b).both
  simp only [if_neg h14]
  by_cases h15:o=15
  ·simp only [if_pos h15]
   exact (qE u u1 u8 a b).both
  simp only [if_neg h15]
  by_cases h16:o=16
  ·simp only [if_pos h16]
   by_cases hj:(n:Int) < (u:Int)
   ·simp only [if_pos hj,decide_eq_true hj]
    exact ⟨b,aZ (by simp only [bJ.j1,if_true];exact bA _),bA _⟩
   ·simp only [if_neg hj,decide_eq_false hj]
    obtain ⟨j,rfl⟩:∃ j,n=u + j:=⟨n - u,by omega⟩
    have hj8:j≤8:=by omega
    have hq:=gG j hj8
    obtain ⟨x,rfl⟩:=Int.eq_ofNat_of_zero_le ha.1
    have hx:x≤255:=by omega
    have hj2:2 ^ j≤256:=Nat.le_trans (Nat.pow_le_pow_right (by decide) hj8) (by decide)
    have hm:x * 2 ^ j≤255 * 256:=Nat.mul_le_mul hx hj2
    have ew:wrap64 (((u + j:Nat):Int) - (u:Int))=(j:Int):=by unfold wrap64;omega
    have e:(x:Int) * (2:Int) ^ j=((x * 2 ^ j:Nat):Int):=by push_cast;rfl
    refine ⟨wrap64 (((x * 2 ^ j:Nat):Int) + b),aZ ?_,?_⟩
    ·simp only [bJ.j1,Bool.false_eq_true,if_false,if_pos h16,ew]
     rw [uO j hj8,if_pos (by omega),rD x j (by omega) (by omega)]
     exact bA _
    ·rw [ew]
     refine bC (f:=fun _ t118=>some (wrap64 ((wrap64 ((x:Int) * t118)) + b))) (gW j hj8) ?_
     rw [e,show wrap64 ((x * 2 ^ j:Nat):Int)=((x * 2 ^ j:Nat):Int) from by unfold wrap64;omega]
     exact bA _
  simp only [if_neg h16]
  by_cases h17:o=17
  ·simp only [if_pos h17]
   obtain ⟨v,e1,e2⟩:=(zX u u1 u8 n n1 n8 a K hK).both
   refine ⟨v,aZ ?_,e2⟩
   simp only [bJ.j1,Bool.false_eq_true,if_false,if_neg h16,if_pos h17]
   exact e1
  simp only [if_neg h17]
  by_cases h18:o=18
  ·simp only [if_pos h18]
   by_cases hx:a=1
   ·refine ⟨b,aZ ?_,?_⟩
    ·simp only [bJ.j1,Bool.false_eq_true,if_false,if_neg h16,if_neg h17,if_pos h18,beq_iff_eq.2 hx]
     exact aZ (by simp only [bJ.j2,if_true];exact bA _)
    ·simp only [if_pos hx]
     exact bA _
   ·refine ⟨c,aZ ?_,?_⟩
    ·simp only [bJ.j1,Bool.false_eq_true,if_false,if_neg h16,if_neg h17,if_pos h18,beq_eq_false_iff_ne.2 hx]
     exact aZ (by simp only [bJ.j2,Bool.false_eq_true,if_false,if_pos h18];exact bA _)
    ·simp only [if_neg hx]
     exact bA _
  simp only [if_neg h18]
  refine ⟨0,aZ ?_,bA _⟩
  simp only [bJ.j1,Bool.false_eq_true,if_false,if_neg h16,if_neg h17,if_neg h18]
  exact aZ (by simp only [bJ.j2,Bool.false_eq_true,if_false,if_neg h18];exact bA _)
end Go.Proofs.Ythipjoioicmcnaa.Pure
