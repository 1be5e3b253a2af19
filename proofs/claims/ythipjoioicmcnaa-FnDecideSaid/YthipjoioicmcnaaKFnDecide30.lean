-- texts of this session, merged by a program of it (wip/gen/pack.py)
import Derived.Test.YthipjoioicmcnaaKFnDecide1
import Derived.Test.YthipjoioicmcnaaKFnDecide11
import Derived.Test.YthipjoioicmcnaaKFnDecide6
import Derived.Test.YthipjoioicmcnaaKFnDecide2
import Derived.Test.YthipjoioicmcnaaKFnDecide15
import Derived.Test.YthipjoioicmcnaaKFnDecide19
import Derived.Test.YthipjoioicmcnaaKFnDecide29
import Derived.Test.YthipjoioicmcnaaKFnDecide26
import Derived.Test.YthipjoioicmcnaaKFnDecide27
import Derived.Test.YthipjoioicmcnaaKFnDecide7
import Derived.Test.YthipjoioicmcnaaKFnDecide23
set_option linter.unusedVariables false
set_option linter.unusedSimpArgs false
set_option maxHeartbeats 80000000
set_option maxRecDepth 100000
namespace Go.Proofs.Ythipjoioicmcnaa.G
open Go.RowKit Go.Proofs.YthipjoioicmcnaaW.PrintWords Go.Proofs.YthipjoioicmcnaaW.PrintLast Go.Proofs.YthipjoioicmcnaaW.PrintMore Go.Proofs.Ythipjoioicmcnaa.Sh
attribute [local go_sem] dP dR eA eB dB dC dQ dS
def bR.j0:Nat→List Int→Bool→Option (Bool)
 | 0,_,_=>none
 | k + 1,x0,x59=>if x59=true then (some false) else ((fW.f k x0).bind fun bt123=>((eU.f k bt123.1 bt123.2.1 bt123.2.2).bind fun bt129=>((eC.f k bt123.1).bind fun Au=>((fU.f k bt123.2.1 bt123.2.2).bind fun bt134=>((eU.f k Au bt134.1 bt134.2).bind fun bt136=>((gL.f k bt123.1 bt123.2.1 bt123.2.2).bind fun bt138=>(if bt136.2=true then (if bt129.1=bt138.1 then (some (bt136.1 == (wrap64 (1 - bt129.1)))) else (some false)) else (some false))))))))
def bR.f (k:Nat) (l0:List Int):Option (Bool):=(jL.f l0).bind fun Ax=>(if Ax=true then (some true) else ((fJ.f k l0).bind fun Ak=>((cK.f k Ak).bind fun bt105=>((bE.f k bt105.1 bt105.2.1).bind fun bt112=>((gM.f k Ak).bind fun bt116=>((dK.f k bt105.1).bind fun Aq=>((eU.f k Aq bt112.1 bt112.2.1).bind fun bt121=>(if (bt121.2 != bt112.2.2)=true then (bR.j0 k l0 true) else (if bt112.2.2=true then (bR.j0 k l0 (bt121.1 != bt116.1)) else (bR.j0 k l0 false))))))))))
def bR.T7:Bool × List (List Nat × List Nat):=(true,[([],[]),([0],[0]),([],[]),([1,2,1],[1,2]),([3],[3]),([4],[4]),([4],[4]),([5,3,0,1,2,3,4,5],[5]),([6,7,0,1,2,3,4,5,6,7],[6])])
def bR.B7:List Nat:=[0,1,0,7,15,31,31,63,255]
theorem bR.tab7:iM .any (oN Try.f10 7)=bR.T7:=by kernel_rfl
theorem bR.bits7:hY bR.T7.2 bR.B7=true:=by kernel_rfl
def bR.T12:Bool × List (List Nat × List Nat):=(true,[([],[]),([0],[0]),([],[]),([2,1],[2]),([1,3,3],[1,3]),([4],[4]),([5],[5]),([5],[5]),([6,4,0,1,2,3,4,5,6],[6]),([7,8,0,1,2,3,4,5,6,7,8],[7])])
def bR.B12:List Nat:=[0,1,0,7,15,31,63,63,127,511]
theorem bR.tab12:iM .any (oN Try.f10 12)=bR.T12:=by kernel_rfl
theorem bR.bits12:hY bR.T12.2 bR.B12=true:=by kernel_rfl
theorem bR.calls (k:Nat) (A0:Option Addr) (c0:Nat) (l0:List Int) (r:Bool) (w:World) (hr0:Kd.C (Kd.int .u8) w A0 l0.length l0) (hc0:l0.length≤c0) (ht_:r=true) (h:bR.f k l0=some r) :
  Calls Try.prog 10 #[.slice A0 l0.length c0] w fun e w'=>e = .returned (.bool r)∧Below w.heap.size w w':=by
 have hu26:=Try.underlying26;have HT:=aA.mk ht_;clear ht_;have HR0:=aA.mk hr0;have HC0:=aA.mk hc0;clear hr0 hc0;have HB:=aA.mk (Below.refl w.heap.size w);have H:((jL.f l0).bind fun Ax=>(if Ax=true then (some true) else ((fJ.f k l0).bind fun Ak=>((cK.f k Ak).bind fun bt105=>((bE.f k bt105.1 bt105.2.1).bind fun bt112=>((gM.f k Ak).bind fun bt116=>((dK.f k bt105.1).bind fun Aq=>((eU.f k Aq bt112.1 bt112.2.1).bind fun bt121=>(if (bt121.2 != bt112.2.2)=true then (bR.j0 k l0 true) else (if bt112.2.2=true then (bR.j0 k l0 (bt121.1 != bt116.1)) else (bR.j0 k l0 false)))))))))))=some r:=h;clear h;replace H:=ob H;obtain ⟨Ax,A20,H⟩:=H
 try dsimp only at H
 have A2:=aA.mk A20;clear A20
 by_cases c3:Ax=true
 ·subst c3
  have H1:(some true)=some r:=by rw [if_pos rfl] at H;exact H
  clear H;have H:=H1;clear H1;obtain rfl:=os H
  go_enter Try.func10,Try.ntmps10
  go_wp2_with (first|((with_reducible refine aD (f:=11) rfl ?_);refine aI (some 22) rfl rfl Try.func11 (by kernel_rfl) rfl #[.slice A0 l0.length c0] rfl ml ?_;(with_reducible refine (jL.calls _ _ l0 true _ ?side1 ?side2 A2.out).mono ?_);(case side1=>exact cw HR0.out);(case side2=>exact HC0.out);rintro e w' ⟨rfl,⟨nd,rfl⟩⟩;refine ⟨_,rfl,?_⟩));go_ret;exact ⟨er,tb HB⟩
 ·replace c3:=Bool.eq_false_iff.mpr c3;subst c3
  have H1:((fJ.f k l0).bind fun Ak=>((cK.f k Ak).bind fun bt105=>((bE.f k bt105.1 bt105.2.1).bind fun bt112=>((gM.f k Ak).bind fun bt116=>((dK.f k bt105.1).bind fun Aq=>((eU.f k Aq bt112.1 bt112.2.1).bind fun bt121=>(if (bt121.2 != bt112.2.2)=true then (bR.j0 k l0 true) else (if bt112.2.2=true then (bR.j0 k l0 (bt121.1 != bt116.1)) else (bR.j0 k l0 false)))))))))=some r:=by rw [if_neg (show ¬ (false=true) by decide)] at H;exact H
  clear H;have H:=H1;clear H1;replace H:=ob H;obtain ⟨Ak,A40,H⟩:=H
  try dsimp only at H
  have A4:=aA.mk A40;clear A40;replace H:=ob H;obtain ⟨⟨Ay,Az,t107⟩,A50,H⟩:=H
  try dsimp only at H
  have A5:=aA.mk A50;clear A50;replace H:=ob H;obtain ⟨⟨Ag,Ah,An⟩,A60,H⟩:=H
  try dsimp only at H
  have A6:=aA.mk A60;clear A60;replace H:=ob H;obtain ⟨⟨B1,t117⟩,A70,H⟩:=H
  try dsimp only at H
  have A7:=aA.mk A70;clear A70;replace H:=ob H;obtain ⟨Aq,A80,H⟩:=H
  try dsimp only at H
  have A8:=aA.mk A80;clear A80;replace H:=ob H;obtain ⟨⟨B2,Ar⟩,A90,H⟩:=H
  try dsimp only at H
  have A9:=aA.mk A90;clear A90;have HC10:=aA.mk H;clear H
  go_enter Try.func10,Try.ntmps10
  try go_wp2_with (first|((with_reducible refine aD (f:=11) rfl ?_);refine aI (some 22) rfl rfl Try.func11 (by kernel_rfl) rfl #[.slice A0 l0.length c0] rfl ml ?_;(with_reducible refine (jL.calls _ _ l0 false _ ?side1 ?side2 A2.out).mono ?_);(case side1=>exact cw HR0.out);(case side2=>exact HC0.out);rintro e w' ⟨rfl,⟨nd,rfl⟩⟩;refine ⟨_,rfl,?_⟩)|((with_reducible refine aD (f:=43) rfl ?_);refine aI (some 24) rfl rfl Try.func43 (by kernel_rfl) rfl #[.slice A0 l0.length c0] rfl ml ?_;(with_reducible refine (fJ.calls k _ _ l0 Ak _ ?side1 ?side2 A4.out).mono ?_);(case side1=>exact cw HR0.out);(case side2=>exact HC0.out);rintro e w11 ⟨v103,rfl,ho0,hb⟩;refine ⟨_,rfl,?_⟩;have Ac:=aA.mk (Kd.R_lower ho0 (aG (tb HB)));replace HB:=aA.mk (aE (tb HB) hb);(try clear hb);(try clear hb2);(try clear hk);(try clear hi);(try clear ho0);obtain ⟨B9,B3,eo12⟩:=Kd.R_slice Ac.out;subst eo12)|((with_reducible refine aD (f:=44) rfl ?_);refine aI (some 27) rfl rfl Try.func44 (by kernel_rfl) rfl #[.slice B9 Ak.length B3] rfl ml ?_;(with_reducible refine (cK.calls k _ _ Ak Ay Az t107 _ ?side1 ?side2 A5.out).mono ?_);(case side1=>exact cw (Kd.R_reads' Ac.out).2.2);(case side2=>exact (Kd.R_reads' Ac.out).2.1);rintro e w13 ⟨v108,v110,rfl,ho0,ho1,hb⟩;refine ⟨_,rfl,?_⟩;have Ad:=aA.mk (Kd.R_lower ho0 (aG (tb HB)));have Ae:=aA.mk (Kd.R_lower (Kd.R_new' ho1 (Kd.R_lt (ra Ac))) (aG (tb HB)));replace Ac:=aA.mk (Kd.R_elder' (ra Ac) (Kd.R_base ho1) hb);replace HB:=aA.mk (aE (tb HB) hb);(try clear hb);(try clear hb2);(try clear hk);(try clear hi);(try clear ho0);(try clear ho1);obtain ⟨Ba,Bb,eo14⟩:=Kd.R_slice Ad.out;subst eo14;obtain ⟨Bc,Bd,eo15⟩:=Kd.R_slice Ae.out;subst eo15)|((with_reducible refine aD (f:=34) rfl ?_);refine aI (some 34) rfl rfl Try.func34 (by kernel_rfl) rfl #[.slice Ba Ay.length Bb,.slice Bc Az.length Bd] rfl ml ?_;(with_reducible refine (bE.calls k _ _ Ay _ _ Az Ag Ah An _ ?side1 ?side2 ?side3 ?side4 A6.out).mono ?_);(case side1=>exact cw (Kd.R_reads' Ad.out).2.2);(case side2=>exact (Kd.R_reads' Ad.out).2.1);(case side3=>exact cw (Kd.R_reads' Ae.out).2.2);(case side4=>exact (Kd.R_reads' Ae.out).2.1);rintro e w16 ⟨rfl,hb⟩;refine ⟨_,rfl,?_⟩;replace Ac:=aA.mk (Kd.R_below (ra Ac) hb);replace Ad:=aA.mk (Kd.R_below (ra Ad) hb);replace Ae:=aA.mk (Kd.R_below (ra Ae) hb);replace HB:=aA.mk (aE (tb HB) hb);(try clear hb);(try clear hb2);(try clear hk);(try clear hi))|((with_reducible refine bF (N:=7) rfl ?_);refine bx (N:=7) (cs:=#[.int .i64 0,.string (⟨#[]⟩:ByteArray)]) (t:=26) ?_;intro Aa hg w17 hbox hb;replace Ac:=aA.mk (Kd.R_below (ra Ac) hb);replace Ad:=aA.mk (Kd.R_below (ra Ad) hb);replace Ae:=aA.mk (Kd.R_below (ra Ae) hb);have A1:=aA.mk (hbox);have GW115:=aA.mk ((by rw [hg];exact (aG (tb HB)):w.heap.size≤Aa));have GE115:=aA.mk ((by rw [hg];exact (aG (tb HB)):w.heap.size≤Aa));replace HB:=aA.mk (aE (tb HB) hb);clear hb hbox hg;have hcz18__:=gP A1;have hfz18__:=f_ A1)|((with_reducible refine aD (f:=50) rfl ?_);refine aI (some 39) rfl rfl Try.func50 (by kernel_rfl) rfl #[.slice B9 Ak.length B3] rfl ml ?_;(with_reducible refine (gM.calls k _ _ Ak B1 t117 _ ?side1 ?side2 A7.out).mono ?_);(case side1=>refine (Kd.R_reads' (e:=99) (base:=w.heap.size) (ok:=fun k_=>(True∧some k_≠(.slice Bc Az.length Bd:Value).ownBlock)) (n:=Ak.length) (c:=B3) ?_).2.2;exact (by (with_reducible repeat (first|apply Kd.R_alloc|apply Kd.R_drewN|apply Kd.R_drew));exact (Kd.R_mono (Kd.R_far (p:=⟨Aa,1,none⟩) (Kd.R_far (p:=⟨Aa,0,none⟩) (Kd.R_types Ac.out A1.out (by decide)) (fun _ hk=>hk.2) (.int .i64 Ag)) (fun _ hk=>hk.2) (.string Ah)) (fun _ h_=>h_.1))));(case side2=>exact (Kd.R_reads' Ac.out).2.1);rintro e w19 ⟨rfl,hb⟩;refine ⟨_,rfl,?_⟩;replace Ac:=aA.mk (Kd.R_below (by (with_reducible repeat (first|apply Kd.R_alloc|apply Kd.R_drewN|apply Kd.R_drew));exact (Kd.R_mono (Kd.R_far (p:=⟨Aa,1,none⟩) (Kd.R_far (p:=⟨Aa,0,none⟩) (Kd.R_types Ac.out A1.out (by decide)) (fun _ hk=>hk.2) (.int .i64 Ag)) (fun _ hk=>hk.2) (.string Ah)) (fun _ h_=>h_.1))) hb);replace Ad:=aA.mk (Kd.R_below (by (with_reducible repeat (first|apply Kd.R_alloc|apply Kd.R_drewN|apply Kd.R_drew));exact (Kd.R_mono (Kd.R_far (p:=⟨Aa,1,none⟩) (Kd.R_far (p:=⟨Aa,0,none⟩) (Kd.R_types Ad.out A1.out (by decide)) (fun _ hk=>hk.2) (.int .i64 Ag)) (fun _ hk=>hk.2) (.string Ah)) (fun _ h_=>h_.1))) hb);replace Ae:=aA.mk (Kd.R_below (by (with_reducible repeat (first|apply Kd.R_alloc|apply Kd.R_drewN|apply Kd.R_drew));exact (Kd.R_mono (Kd.R_far (p:=⟨Aa,1,none⟩) (Kd.R_far (p:=⟨Aa,0,none⟩) (Kd.R_types Ae.out A1.out (by decide)) (fun _ hk=>hk.2) (.int .i64 Ag)) (fun _ hk=>hk.2) (.string Ah)) (fun _ h_=>h_.1))) hb);replace A1:=aA.mk (aM (g:=Aa) (o := .cells #[.int .i64 Ag,.string Ah] 26 (0,0)) (by (with_reducible repeat (first|refine aW ?_ _|refine aU ?_|refine aX ?_ _));refine bU (cs:=#[.int .i64 Ag,.string (⟨#[]⟩:ByteArray)]) ?_ 1 _ rfl;(with_reducible repeat (first|refine aW ?_ _|refine aU ?_|refine aX ?_ _));refine bU (cs:=#[.int .i64 0,.string (⟨#[]⟩:ByteArray)]) ?_ 0 _ rfl;(with_reducible repeat (first|refine aW ?_ _|refine aU ?_|refine aX ?_ _));exact A1.out) hb);replace HB:=aA.mk (aE (tb HB) hb);(try clear hb);(try clear hb2);(try clear hk);(try clear hi)))
  have n0_:=aA.mk (Kd.R_drew Ac.out);have n1_:=aA.mk (Kd.R_drew Ad.out);have n2_:=aA.mk (Kd.R_drew Ae.out);have n3_:=aA.mk (aU A1.out);have n4_:=aA.mk (bO HB.out);clear Ac;clear Ad;clear Ae;clear A1;clear HB;have Ac:=n0_;have Ad:=n1_;have Ae:=n2_;have A1:=n3_;have HB:=n4_;clear n0_ n1_ n2_ n3_ n4_;refine fM (n:=9) (S:=fun w'=>w'.cell? ⟨Aa,0,none⟩=some (.int .i64 Ag)∧w'.cell? ⟨Aa,1,none⟩=some (.string Ah)) (ds:=[]) (tf 0 9) (by kernel_rfl) rfl rfl ⟨(aY A1.out 0).trans rfl,(aY A1.out 1).trans rfl⟩ (fun hHeld=>?_);refine iJ bR.tab7 bR.bits7 (fun HT_ HW_=>?_);generalize w19.drew=w20 at Ac Ad Ae A1 HB hHeld ⊢;refine hJ HT_ 0 43 (tf 1 8) ?_;refine vL HT_ HW_ 2 45 #[true,false,true,false,false,false,false,false,false] hHeld ?_;refine gC (i:=1) (N:=some 44) (tf 3 6) rfl rfl (iD HT_.out (by kernel_rfl)) (by decide) (fun K hK=>?_);refine fQ Try.func51 (by kernel_rfl) rfl #[.slice Ba Ay.length Bb] (by rfl) rfl rfl ml ?_
  with_reducible refine (dK.calls k _ _ Ay Aq _ ?side1 ?side2 A8.out).mono ?_
  (case side1=>exact cw (Kd.R_reads' Ad.out).2.2)
  (case side2=>exact (Kd.R_reads' Ad.out).2.1)
  rintro e w21 ⟨v119,rfl,ho0,hb⟩;refine ⟨_,rfl,?_⟩;have n0_:=aA.mk (Kd.R_below (ra Ac) hb);have n1_:=aA.mk (Kd.R_below (ra Ad) hb);have n2_:=aA.mk (Kd.R_below (ra Ae) hb);have n3_:=aA.mk (Kd.R_lower ho0 (aG (tb HB)));have n4_:=aA.mk (aM (g:=Aa) (o := .cells #[.int .i64 Ag,.string Ah] 26 (0,0)) (dr A1) hb);have n5_:=aA.mk (aE (tb HB) hb);clear Ac;clear Ad;clear Ae;clear A1;clear HB;have Ac:=n0_;have Ad:=n1_;have Ae:=n2_;have Ap:=n3_;have A1:=n4_;have HB:=n5_;clear n0_ n1_ n2_ n3_ n4_ n5_;(try clear hb);(try clear hb2);(try clear hk);(try clear hi);(try clear ho0);obtain ⟨Ao22,co22,eo22⟩:=Kd.R_slice Ap.out;(first|subst eo22|(injection eo22 with f1_ f2_ f3_;have f4_:=f1_.symm;have f5_:=f3_.symm;clear f1_ f2_ f3_;subst f4_;subst f5_));refine hK.out _ _ ⟨(aY A1.out 0).trans rfl,(aY A1.out 1).trans rfl⟩ (fun hHeld=>?_);clear hK K;refine eG (a':=?_) ?_ ?_;rotate_left
  ·show Act.put _ (some 44) _=_
   simp only [Act.put,s1,s2,s3,aJ,aN];rfl
  refine gC (i:=3) (N:=some 46) (tf 4 5) rfl rfl (iD HT_.out (by kernel_rfl)) (by decide) (fun K hK=>?_);refine fQ Try.func13 (by kernel_rfl) rfl #[.slice Ao22 Aq.length co22,.agg #[.int .i64 Ag,.string Ah]] (by rfl) rfl rfl ml ?_
  with_reducible refine (eU.calls k _ _ Aq Ag Ah B2 Ar _ ?side1 ?side2 A9.out).mono ?_
  (case side1=>exact cw (Kd.R_reads' Ap.out).2.2)
  (case side2=>exact (Kd.R_reads' Ap.out).2.1)
  rintro e w23 ⟨rfl,hb⟩;refine ⟨_,rfl,?_⟩;have n0_:=aA.mk (Kd.R_below (ra Ac) hb);have n1_:=aA.mk (Kd.R_below (ra Ad) hb);have n2_:=aA.mk (Kd.R_below (ra Ae) hb);have n3_:=aA.mk (Kd.R_below (ra Ap) hb);have n4_:=aA.mk (aM (g:=Aa) (o := .cells #[.int .i64 Ag,.string Ah] 26 (0,0)) (dr A1) hb);have n5_:=aA.mk (aE (tb HB) hb);clear Ac;clear Ad;clear Ae;clear Ap;clear A1;clear HB;have Ac:=n0_;have Ad:=n1_;have Ae:=n2_;have Ap:=n3_;have A1:=n4_;have HB:=n5_;clear n0_ n1_ n2_ n3_ n4_ n5_;(try clear hb);(try clear hb2);(try clear hk);(try clear hi);refine hK.out _ _ ⟨(aY A1.out 0).trans rfl,(aY A1.out 1).trans rfl⟩ (fun hHeld=>?_);clear hK K;refine eG (a':=?_) ?_ ?_;rotate_left
  ·show Act.put _ (some 46) _=_
   simp only [Act.put,s1,s2,s3,aJ,aN];rfl
  refine hJ HT_ 4 42 (tf 5 4) ?_;refine hJ HT_ 5 47 (tf 6 3) ?_;refine hJ HT_ 6 48 (tf 7 2) ?_;refine hJ HT_ 7 11 (tf 8 1) ?_;refine hJ HT_ 8 12 (tf 9 0) ?_;refine iG (jS HT_.out (by kernel_rfl)) ?_
  go_upto_region 8 with (fail)
  go_cut [59] (fun v59 wc=>∃ (kq:Nat) (Av:Bool),v59 = .bool Av∧aA (bR.j0 kq l0 Av=some r)∧aA (kq≤k)∧aA (wc.heap[Aa]? = some (.cells #[.int .i64 Ag,.string Ah] 26 (0,0)))∧aA (Below w.heap.size w wc))
  case first =>
   have H:=HC10.out;clear HC10
   by_cases c24:(Ar != An)=true
   ·rw [if_pos c24] at H;have c24b0:(Ar != An)=true:=c24
    (try (have c24b1:decide (Ar=An)=false:=by simpa using c24))
    (try (have c24b2:(Ar == An)=false:=by simpa using c24))
    (try (have c24b3:¬ (Ar=An):=by simpa using c24))
    clear c24;(first|rw [c24b0]|(simp only [aJ,aN];rw [c24b0])|skip);have H':=aA.mk H;clear H;go_wp2;go_meet
    case rel=>exact ⟨_,(true),(by first|rfl|(simp;done)|(simp [*];done)),H',⟨by first|omega|exact Nat.le_refl _⟩,⟨dr A1⟩,⟨by exact tb HB⟩⟩
   ·rw [if_neg c24] at H
    have c24b0:(Ar != An)=false:=by simpa using c24
    (try (have c24b1:decide (Ar=An)=true:=by simpa using c24))
    (try (have c24b2:(Ar == An)=true:=by simpa using c24))
    clear c24;(first|rw [c24b0]|(simp only [aJ,aN];rw [c24b0])|skip)
    by_cases c25:An=true
    ·subst c25
     have H1:(bR.j0 k l0 (B2 != B1))=some r:=by rw [if_pos rfl] at H;exact H
     clear H;have H:=H1;clear H1;have H':=aA.mk H;clear H;go_wp2;go_meet
     case rel=>exact ⟨_,((B2 != B1)),(by first|rfl|(simp;done)|(simp [*];done)),H',⟨by first|omega|exact Nat.le_refl _⟩,⟨dr A1⟩,⟨by exact tb HB⟩⟩
    ·replace c25:=Bool.eq_false_iff.mpr c25;subst c25
     have H1:(bR.j0 k l0 false)=some r:=by rw [if_neg (show ¬ (false=true) by decide)] at H;exact H
     clear H;have H:=H1;clear H1;have H':=aA.mk H;clear H;go_wp2;go_meet
     case rel=>exact ⟨_,(false),(by first|rfl|(simp;done)|(simp [*];done)),H',⟨by first|omega|exact Nat.le_refl _⟩,⟨dr A1⟩,⟨by exact tb HB⟩⟩
  case rest =>
   clear HC10;obtain ⟨kq,Av,rfl,HA,HJ9,A1,HB⟩:=hcut
   cases kq with
   | zero=>exact absurd HA.out (by simp [bR.j0])
   | succ kj9 =>
    have H:=HA.out;clear HA;simp only [bR.j0] at H
    by_cases c26:Av=true
    ·subst c26
     have H1:(some false)=some r:=by rw [if_pos rfl] at H;exact H
     clear H;have H:=H1;clear H1;exact absurd ((Option.some.inj H).trans HT.out) (by decide)
    ·replace c26:=Bool.eq_false_iff.mpr c26;subst c26
     have H1:((fW.f kj9 l0).bind fun bt123=>((eU.f kj9 bt123.1 bt123.2.1 bt123.2.2).bind fun bt129=>((eC.f kj9 bt123.1).bind fun Au=>((fU.f kj9 bt123.2.1 bt123.2.2).bind fun bt134=>((eU.f kj9 Au bt134.1 bt134.2).bind fun bt136=>((gL.f kj9 bt123.1 bt123.2.1 bt123.2.2).bind fun bt138=>(if bt136.2=true then (if bt129.1=bt138.1 then (some (bt136.1 == (wrap64 (1 - bt129.1)))) else (some false)) else (some false))))))))=some r:=by rw [if_neg (show ¬ (false=true) by decide)] at H;exact H
     clear H;have H:=H1;clear H1;replace H:=ob H;obtain ⟨⟨As,Aj,Al⟩,A270,H⟩:=H
     try dsimp only at H
     have A27:=aA.mk A270;clear A270;replace H:=ob H;obtain ⟨⟨Ao,t130⟩,A280,H⟩:=H
     try dsimp only at H
     have A28:=aA.mk A280;clear A280;replace H:=ob H;obtain ⟨Au,A290,H⟩:=H
     try dsimp only at H
     have A29:=aA.mk A290;clear A290;replace H:=ob H;obtain ⟨⟨B4,B5⟩,A300,H⟩:=H
     try dsimp only at H
     have A30:=aA.mk A300;clear A300;replace H:=ob H;obtain ⟨⟨B6,Be⟩,A310,H⟩:=H
     try dsimp only at H
     have A31:=aA.mk A310;clear A310;replace H:=ob H;obtain ⟨⟨At,t139⟩,A320,H⟩:=H;replace H:(if Be=true then (if Ao=At then (some (B6 == (wrap64 (1 - Ao)))) else (some false)) else (some false))=some r:=H;have A32:=aA.mk A320;clear A320
     by_cases c33:Be=true
     ·subst c33
      have H1:(if Ao=At then (some (B6 == (wrap64 (1 - Ao)))) else (some false))=some r:=by rw [if_pos rfl] at H;exact H
      clear H;have H:=H1;clear H1
      by_cases c34:Ao=At
      ·rw [if_pos c34] at H;have c34b0:(Ao == At)=true:=beq_iff_eq.mpr c34;have c34b1:(Ao != At)=false:=bne_eq_false_iff_eq.mpr c34;clear c34;obtain rfl:=os H
       try go_wp2_with (first|((with_reducible refine aD (f:=12) rfl ?_);refine aI (some 62) rfl rfl Try.func12 (by kernel_rfl) rfl #[.slice A0 l0.length c0] rfl ml ?_;(with_reducible refine (fW.calls kj9 _ _ l0 As Aj Al _ ?side1 ?side2 A27.out).mono ?_);(case side1=>exact cw (Kd.C_below HR0.out HB.out));(case side2=>exact HC0.out);rintro e w35 ⟨v124,rfl,ho0,hb⟩;refine ⟨_,rfl,?_⟩;have Ab:=aA.mk (Kd.R_lower ho0 (aG (tb HB)));replace A1:=aA.mk (aM (g:=Aa) (o := .cells #[.int .i64 Ag,.string Ah] 26 (0,0)) (dr A1) hb);replace HB:=aA.mk (aE (tb HB) hb);(try clear hb);(try clear hb2);(try clear hk);(try clear hi);(try clear ho0))|((with_reducible refine bF (N:=14) rfl ?_);refine bx (N:=14) (cs:=#[.int .i64 0,.string (⟨#[]⟩:ByteArray)]) (t:=26) ?_;intro Af hg w36 hbox hb;replace Ab:=aA.mk (Kd.R_below (ra Ab) hb);have A3:=aA.mk (hbox);have GW128:=aA.mk ((by rw [hg];exact (aG (tb HB)):w.heap.size≤Af));have GE128:=aA.mk ((by rw [hg];exact (aG (tb HB)):w.heap.size≤Af));replace HB:=aA.mk (aE (tb HB) hb);have Am:=aA.mk ((by rw [hg];exact Nat.ne_of_lt (eE (g:=Aa) (o := .cells #[.int .i64 Ag,.string Ah] 26 (0,0)) (dr A1)):Aa≠Af));have Aw:=aA.mk ((by rw [hg];exact Nat.ne_of_gt (eE (g:=Aa) (o := .cells #[.int .i64 Ag,.string Ah] 26 (0,0)) (dr A1)):Af≠Aa));replace A1:=aA.mk (aM (g:=Aa) (o := .cells #[.int .i64 Ag,.string Ah] 26 (0,0)) (dr A1) hb);clear hb hbox hg;have hnb37:=Aw.out;have hnc37:=Am.out;have hcz38__:=gP A3;have hfz38__:=f_ A3;obtain ⟨B8,B0,eo39⟩:=Kd.R_slice Ab.out;subst eo39)|((with_reducible refine aD (f:=13) rfl ?_);refine aI (some 68) rfl rfl Try.func13 (by kernel_rfl) rfl #[.slice B8 As.length B0,.agg #[.int .i64 Aj,.string Al]] rfl ml ?_;(with_reducible refine (eU.calls kj9 _ _ As Aj Al Ao t130 _ ?side1 ?side2 A28.out).mono ?_);(case side1=>refine (Kd.R_reads' (e:=4) (base:=w.heap.size) (ok:=fun k_=>True) (n:=As.length) (c:=B0) ?_).2.2;exact (by (with_reducible repeat (first|apply Kd.R_alloc|apply Kd.R_drewN|apply Kd.R_drew));exact (Kd.R_mono (Kd.R_far (p:=⟨Af,1,none⟩) (Kd.R_far (p:=⟨Af,0,none⟩) (Kd.R_types Ab.out A3.out (by decide)) (fun _ hk=>hk.2) (.int .i64 Aj)) (fun _ hk=>hk.2) (.string Al)) (fun _ h_=>h_.1))));(case side2=>exact (Kd.R_reads' Ab.out).2.1);rintro e w40 ⟨rfl,hb⟩;refine ⟨_,rfl,?_⟩;replace Ab:=aA.mk (Kd.R_below (by (with_reducible repeat (first|apply Kd.R_alloc|apply Kd.R_drewN|apply Kd.R_drew));exact (Kd.R_mono (Kd.R_far (p:=⟨Af,1,none⟩) (Kd.R_far (p:=⟨Af,0,none⟩) (Kd.R_types Ab.out A3.out (by decide)) (fun _ hk=>hk.2) (.int .i64 Aj)) (fun _ hk=>hk.2) (.string Al)) (fun _ h_=>h_.1))) hb);replace A1:=aA.mk (aM (g:=Aa) (o := .cells #[.int .i64 Ag,.string Ah] 26 (0,0)) (by (with_reducible repeat (first|refine aW ?_ _|refine aU ?_|refine aX ?_ _));refine eL ?_ Am.out _;(with_reducible repeat (first|refine aW ?_ _|refine aU ?_|refine aX ?_ _));refine eL ?_ Am.out _;(with_reducible repeat (first|refine aW ?_ _|refine aU ?_|refine aX ?_ _));exact A1.out) hb);replace A3:=aA.mk (aM (g:=Af) (o := .cells #[.int .i64 Aj,.string Al] 26 (0,0)) (by (with_reducible repeat (first|refine aW ?_ _|refine aU ?_|refine aX ?_ _));refine bU (cs:=#[.int .i64 Aj,.string (⟨#[]⟩:ByteArray)]) ?_ 1 _ rfl;(with_reducible repeat (first|refine aW ?_ _|refine aU ?_|refine aX ?_ _));refine bU (cs:=#[.int .i64 0,.string (⟨#[]⟩:ByteArray)]) ?_ 0 _ rfl;(with_reducible repeat (first|refine aW ?_ _|refine aU ?_|refine aX ?_ _));exact A3.out) hb);replace HB:=aA.mk (aE (tb HB) hb);(try clear hb);(try clear hb2);(try clear hk);(try clear hi)))
       have n0_:=aA.mk (Kd.R_drew Ab.out);have n1_:=aA.mk (aU A1.out);have n2_:=aA.mk (aU A3.out);have n3_:=aA.mk (bO HB.out);clear Ab;clear A1;clear A3;clear HB;have Ab:=n0_;have A1:=n1_;have A3:=n2_;have HB:=n3_;clear n0_ n1_ n2_ n3_;refine fM (n:=10) (S:=fun w'=>w'.cell? ⟨Af,0,none⟩=some (.int .i64 Aj)∧w'.cell? ⟨Af,1,none⟩=some (.string Al)) (ds:=[]) (tf 0 10) (by kernel_rfl) rfl rfl ⟨(aY A3.out 0).trans rfl,(aY A3.out 1).trans rfl⟩ (fun hHeld=>?_);refine iJ bR.tab12 bR.bits12 (fun HT_ HW_=>?_);generalize w40.drew=w41 at Ab A1 A3 HB hHeld ⊢;refine hJ HT_ 0 72 (tf 1 9) ?_;refine vL HT_ HW_ 2 74 #[true,false,true,false,false,false,false,false,false,false] hHeld ?_;refine gC (i:=1) (N:=some 73) (tf 3 7) rfl rfl (iD HT_.out (by kernel_rfl)) (by decide) (fun K hK=>?_);refine fQ Try.func52 (by kernel_rfl) rfl #[.slice B8 As.length B0] (by rfl) rfl rfl ml ?_
       with_reducible refine (eC.calls kj9 _ _ As Au _ ?side1 ?side2 A29.out).mono ?_
       (case side1=>exact cw (Kd.R_reads' Ab.out).2.2)
       (case side2=>exact (Kd.R_reads' Ab.out).2.1)
       rintro e w42 ⟨v132,rfl,ho0,hb⟩;refine ⟨_,rfl,?_⟩;have n0_:=aA.mk (Kd.R_elder' (ra Ab) (Kd.R_base ho0) hb);have n1_:=aA.mk (Kd.R_lower (Kd.R_new' ho0 (Kd.R_lt (ra Ab))) (aG (tb HB)));have n2_:=aA.mk (aM (g:=Aa) (o := .cells #[.int .i64 Ag,.string Ah] 26 (0,0)) (dr A1) hb);have n3_:=aA.mk (aM (g:=Af) (o := .cells #[.int .i64 Aj,.string Al] 26 (0,0)) (dr A3) hb);have n4_:=aA.mk (aE (tb HB) hb);clear Ab;clear A1;clear A3;clear HB;have Ab:=n0_;have Ai:=n1_;have A1:=n2_;have A3:=n3_;have HB:=n4_;clear n0_ n1_ n2_ n3_ n4_;(try clear hb);(try clear hb2);(try clear hk);(try clear hi);(try clear ho0);refine hK.out _ _ ⟨(aY A3.out 0).trans rfl,(aY A3.out 1).trans rfl⟩ (fun hHeld=>?_);clear hK K;refine eG (a':=?_) ?_ ?_;rotate_left
       ·show Act.put _ (some 73) _=_
        simp only [Act.put,s1,s2,s3,aJ,aN];rfl
       refine gC (i:=3) (N:=some 75) (tf 4 6) rfl rfl (iD HT_.out (by kernel_rfl)) (by decide) (fun K hK=>?_);refine fQ Try.func30 (by kernel_rfl) rfl #[.agg #[.int .i64 Aj,.string Al]] (by rfl) rfl rfl ml ?_
       with_reducible refine (fU.calls kj9 Aj Al B4 B5 _ A30.out).mono ?_
       rintro e w43 ⟨rfl,hb⟩;refine ⟨_,rfl,?_⟩;have n0_:=aA.mk (Kd.R_below (ra Ab) hb);have n1_:=aA.mk (Kd.R_below (ra Ai) hb);have n2_:=aA.mk (aM (g:=Aa) (o := .cells #[.int .i64 Ag,.string Ah] 26 (0,0)) (dr A1) hb);have n3_:=aA.mk (aM (g:=Af) (o := .cells #[.int .i64 Aj,.string Al] 26 (0,0)) (dr A3) hb);have n4_:=aA.mk (aE (tb HB) hb);clear Ab;clear Ai;clear A1;clear A3;clear HB;have Ab:=n0_;have Ai:=n1_;have A1:=n2_;have A3:=n3_;have HB:=n4_;clear n0_ n1_ n2_ n3_ n4_;(try clear hb);(try clear hb2);(try clear hk);(try clear hi);obtain ⟨Ao44,co44,eo44⟩:=Kd.R_slice Ai.out;(first|subst eo44|(injection eo44 with f1_ f2_ f3_;have f4_:=f1_.symm;have f5_:=f3_.symm;clear f1_ f2_ f3_;subst f4_;subst f5_));refine hK.out _ _ ⟨(aY A3.out 0).trans rfl,(aY A3.out 1).trans rfl⟩ (fun hHeld=>?_);clear hK K;refine eG (a':=?_) ?_ ?_;rotate_left
       ·show Act.put _ (some 75) _=_
        simp only [Act.put,s1,s2,s3,aJ,aN];rfl
       refine gC (i:=4) (N:=some 76) (tf 5 5) rfl rfl (iD HT_.out (by kernel_rfl)) (by decide) (fun K hK=>?_);refine fQ Try.func13 (by kernel_rfl) rfl #[.slice Ao44 Au.length co44,.agg #[.int .i64 B4,.string B5]] (by rfl) rfl rfl ml ?_
       with_reducible refine (eU.calls kj9 _ _ Au B4 B5 B6 true _ ?side1 ?side2 A31.out).mono ?_
       (case side1=>exact cw (Kd.R_reads' Ai.out).2.2)
       (case side2=>exact (Kd.R_reads' Ai.out).2.1)
       rintro e w45 ⟨rfl,hb⟩;refine ⟨_,rfl,?_⟩;have n0_:=aA.mk (Kd.R_below (ra Ab) hb);have n1_:=aA.mk (Kd.R_below (ra Ai) hb);have n2_:=aA.mk (aM (g:=Aa) (o := .cells #[.int .i64 Ag,.string Ah] 26 (0,0)) (dr A1) hb);have n3_:=aA.mk (aM (g:=Af) (o := .cells #[.int .i64 Aj,.string Al] 26 (0,0)) (dr A3) hb);have n4_:=aA.mk (aE (tb HB) hb);clear Ab;clear Ai;clear A1;clear A3;clear HB;have Ab:=n0_;have Ai:=n1_;have A1:=n2_;have A3:=n3_;have HB:=n4_;clear n0_ n1_ n2_ n3_ n4_;(try clear hb);(try clear hb2);(try clear hk);(try clear hi);refine hK.out _ _ ⟨(aY A3.out 0).trans rfl,(aY A3.out 1).trans rfl⟩ (fun hHeld=>?_);clear hK K;refine eG (a':=?_) ?_ ?_;rotate_left
       ·show Act.put _ (some 76) _=_
        simp only [Act.put,s1,s2,s3,aJ,aN];rfl
       refine hJ HT_ 5 71 (tf 6 4) ?_;refine hJ HT_ 6 77 (tf 7 3) ?_;refine hJ HT_ 7 78 (tf 8 2) ?_;refine hJ HT_ 8 17 (tf 9 1) ?_;refine hJ HT_ 9 18 (tf 10 0) ?_;refine iG (jS HT_.out (by kernel_rfl)) ?_;have hcz46__:=gP A3;have hfz46__:=f_ A3
       try go_wp2_with (first|((with_reducible refine aD (f:=53) rfl ?_);refine aI (some 82) rfl rfl Try.func53 (by kernel_rfl) rfl #[.slice B8 As.length B0,.agg #[.int .i64 Aj,.string Al]] rfl ml ?_;(with_reducible refine (gL.calls kj9 _ _ As Aj Al At t139 _ ?side1 ?side2 A32.out).mono ?_);(case side1=>exact cw (Kd.R_reads' Ab.out).2.2);(case side2=>exact (Kd.R_reads' Ab.out).2.1);rintro e w47 ⟨rfl,hb⟩;refine ⟨_,rfl,?_⟩;replace Ab:=aA.mk (Kd.R_below (ra Ab) hb);replace Ai:=aA.mk (Kd.R_below (ra Ai) hb);replace A1:=aA.mk (aM (g:=Aa) (o := .cells #[.int .i64 Ag,.string Ah] 26 (0,0)) (dr A1) hb);replace A3:=aA.mk (aM (g:=Af) (o := .cells #[.int .i64 Aj,.string Al] 26 (0,0)) (dr A3) hb);replace HB:=aA.mk (aE (tb HB) hb);(try clear hb);(try clear hb2);(try clear hk);(try clear hi)))
       go_ret;exact ⟨er,tb HB⟩
      ·rw [if_neg c34] at H;have c34b0:(Ao == At)=false:=beq_eq_false_iff_ne.mpr c34;have c34b1:(Ao != At)=true:=bne_iff_ne.mpr c34;exact absurd ((Option.some.inj H).trans HT.out) (by decide)
     ·replace c33:=Bool.eq_false_iff.mpr c33;subst c33
      have H1:(some false)=some r:=by rw [if_neg (show ¬ (false=true) by decide)] at H;exact H
      clear H;have H:=H1;clear H1;exact absurd ((Option.some.inj H).trans HT.out) (by decide)
end Go.Proofs.Ythipjoioicmcnaa.G
