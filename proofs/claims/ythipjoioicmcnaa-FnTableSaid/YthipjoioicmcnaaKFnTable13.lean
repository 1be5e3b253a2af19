-- texts of this session, merged by a program of it (wip/gen/pack.py)
import Derived.Test.YthipjoioicmcnaaKFnTable2
import Derived.Test.YthipjoioicmcnaaKFnTable5
import Derived.Test.YthipjoioicmcnaaKFnTable7
import Derived.Test.YthipjoioicmcnaaKFnTable8
import Derived.Test.YthipjoioicmcnaaKFnTable9
import Derived.Test.YthipjoioicmcnaaKFnTable11
import Derived.Test.YthipjoioicmcnaaKFnTable12
import Derived.Laws.BitsLemmas
import Derived.Test.YthipjoioicmcnaaKFnTable6
import Derived.Test.YthipjoioicmcnaaKFnTable3
import Derived.Test.YthipjoioicmcnaaKFnTable10
set_option linter.unusedVariables false
set_option linter.unusedSimpArgs false
set_option maxHeartbeats 80000000
set_option maxRecDepth 100000
namespace Go.Proofs.Ythipjoioicmcnaa.G
open Go.RowKit Go.Proofs.YthipjoioicmcnaaW.PrintWords Go.Proofs.YthipjoioicmcnaaW.PrintLast Go.Proofs.YthipjoioicmcnaaW.PrintMore Go.Proofs.Ythipjoioicmcnaa.Sh
attribute [local go_sem] eS eR fI fJ eI eJ eU eT
mutual
def aX.j0:Nat→List Int→List (bN)→List (eE)→List (bN)→Bool→Bool→Bool→Int→ByteArray→Option (Bool)
 | 0,_,_,_,_,_,_,_,_,_=>none
 | k + 1,x0,x3,x4,x5,x8,x10,x49,x116000,x116001=>if x49=true then (some (x8 == x10)) else ((bZ.f k x116000 x116001).bind fun Bf=>(if Bf=true then ((dK.f k x3).bind fun B5=>(aX.j1 k x0 x4 x5 (x116000 != B5) x116000 x116001)) else (aX.j1 k x0 x4 x5 true x116000 x116001)))
def aX.j1:Nat→List Int→List (eE)→List (bN)→Bool→Int→ByteArray→Option (Bool)
 | 0,_,_,_,_,_,_=>none
 | k + 1,x0,x4,x5,x62,x116000,x116001=>if x62=true then (some false) else (aX.l0 k x0 x4 x5 0 x116000 x116001)
def aX.l0:Nat→List Int→List (eE)→List (bN)→Int→Int→ByteArray→Option (Bool)
 | 0,_,_,_,_,_,_=>none
 | k + 1,x0,x4,x5,x11,x116000,x116001=>if x11 < 6 then (aX.l1 k x0 x4 x5 x11 (([]:List Int)) (([]:List Int)) 0 x116000 x116001) else ((dF.f k x116000 x116001 ([]:List Int)).bind fun Bg=>((cL.f k x116000 x116001 ([]:List Int)).bind fun Be=>(some (Bg == Be))))
def aX.l1:Nat→List Int→List (eE)→List (bN)→Int→List Int→List Int→Int→Int→ByteArray→Option (Bool)
 | 0,_,_,_,_,_,_,_,_,_=>none
 | k + 1,x0,x4,x5,x11,x12,x13,x14,x116000,x116001=>if x14 < 8 then (if x13.length < 17592186044416 then (aX.l1 k x0 x4 x5 x11 x12 (x13 ++ [0]) (wrap64 (x14 + 1)) x116000 x116001) else (none)) else (aX.l2 k x0 x4 x5 x11 x12 x13 0 x116000 x116001)
def aX.l2:Nat→List Int→List (eE)→List (bN)→Int→List Int→List Int→Int→Int→ByteArray→Option (Bool)
 | 0,_,_,_,_,_,_,_,_,_=>none
 | k + 1,x0,x4,x5,x11,x12,x13,x15,x116000,x116001=>if x15 < (x4.length:Int) then (aX.l3 k x0 x4 x5 x11 x12 x13 x15 0 0 x116000 x116001) else ((cS.f k x5 x13).bind fun bt140=>(if bt140.2=true then ((dF.f k x116000 x116001 x12).bind fun Ay=>(if Ay=bt140.1 then (aX.l0 k x0 x4 x5 (wrap64 (x11 + 1)) x116000 x116001) else (some false))) else (some false)))
def aX.l3:Nat→List Int→List (eE)→List (bN)→Int→List Int→List Int→Int→Int→Int→Int→ByteArray→Option (Bool)
 | 0,_,_,_,_,_,_,_,_,_,_,_=>none
 | k + 1,x0,x4,x5,x11,x12,x13,x15,x16,x17,x116000,x116001=>if 0≤x15 then (if x15 < (x4.length:Int) then (if x17 < ((aI x4 x15).f2) then ((kU.f x0 (wrap64 ((wrap64 (x11 * 20)) + (x12.length:Int)))).bind fun B6=>(if x12.length < 17592186044416 then (aX.l3 k x0 x4 x5 x11 (x12 ++ [Int.tmod B6 2]) x13 x15 (wrap64 ((wrap64 (2 * x16)) + (Int.tmod B6 2))) (wrap64 (x17 + 1)) x116000 x116001) else (none))) else (if 0≤((aI x4 x15).f1) then (if ((aI x4 x15).f1) < (x13.length:Int) then (aX.l2 k x0 x4 x5 x11 x12 (x13.set (((aI x4 x15).f1):Int).toNat x16) (wrap64 (x15 + 1)) x116000 x116001) else (none)) else (none))) else (none)) else (none)
end
def aX.f (k:Nat) (l0:List Int):Option (Bool):=(iV.f l0).bind fun Bh=>(if Bh=true then (some true) else ((fD.f k l0).bind fun An=>((cK.f k An).bind fun bt105=>((fC.f k bt105.1 bt105.2.1).bind fun bt112=>((bJ.f k bt105.1 bt105.2.1).bind fun bt116=>(if (bt112.2.2 != bt116.2.2)=true then (aX.j0 k l0 An bt105.1 bt105.2.1 bt112.2.2 bt116.2.2 true bt112.1 bt112.2.1) else (aX.j0 k l0 An bt105.1 bt105.2.1 bt112.2.2 bt116.2.2 (!bt112.2.2) bt112.1 bt112.2.1)))))))
def aX.T9:Bool × List (List Nat × List Nat):=(true,[([],[]),([0],[0]),([1],[1]),([2,1],[2]),([3],[3]),([4,3],[3,4]),([3],[3]),([6,3,3],[3,6]),([5,7,3],[3,5,7]),([3,8],[3,8])])
def aX.B9:List Nat:=[0,1,3,7,15,31,15,79,255,511]
theorem aX.tab9:hG .any (tU Try.f9 9)=aX.T9:=by kernel_rfl
theorem aX.bits9:iE aX.T9.2 aX.B9=true:=by kernel_rfl
theorem aX.calls (k:Nat) (A0:Option Addr) (c0:Nat) (l0:List Int) (r:Bool) (w:World) (hr0:Kd.C (Kd.int .u8) w A0 l0.length l0) (hc0:l0.length≤c0) (ht_:r=true) (h:aX.f k l0=some r) :
  Calls Try.prog 9 #[.slice A0 l0.length c0] w fun e w'=>e = .returned (.bool r)∧Below w.heap.size w w':=by
 have hu26:=Try.underlying26;have HT:=aA.mk ht_;clear ht_;have HR0:=aA.mk hr0;have HC0:=aA.mk hc0;clear hr0 hc0;have HB:=aA.mk (Below.refl w.heap.size w);have H:((iV.f l0).bind fun Bh=>(if Bh=true then (some true) else ((fD.f k l0).bind fun An=>((cK.f k An).bind fun bt105=>((fC.f k bt105.1 bt105.2.1).bind fun bt112=>((bJ.f k bt105.1 bt105.2.1).bind fun bt116=>(if (bt112.2.2 != bt116.2.2)=true then (aX.j0 k l0 An bt105.1 bt105.2.1 bt112.2.2 bt116.2.2 true bt112.1 bt112.2.1) else (aX.j0 k l0 An bt105.1 bt105.2.1 bt112.2.2 bt116.2.2 (!bt112.2.2) bt112.1 bt112.2.1))))))))=some r:=h;clear h;replace H:=ob H;obtain ⟨Bh,A20,H⟩:=H
 try dsimp only at H
 have A2:=aA.mk A20;clear A20
 by_cases c3:Bh=true
 ·subst c3
  have H1:(some true)=some r:=by rw [if_pos rfl] at H;exact H
  clear H;have H:=H1;clear H1;obtain rfl:=os H
  go_enter Try.func9,Try.ntmps9
  go_wp2_with (first|((with_reducible refine aD (f:=11) rfl ?_);refine aT (some 22) rfl rfl Try.func11 (by kernel_rfl) rfl #[.slice A0 l0.length c0] rfl ml ?_;(with_reducible refine (iV.calls _ _ l0 true _ ?side1 ?side2 A2.out).mono ?_);(case side1=>exact cw HR0.out);(case side2=>exact HC0.out);rintro e w' ⟨rfl,⟨nd,rfl⟩⟩;refine ⟨_,rfl,?_⟩));go_ret;exact ⟨er,tb HB⟩
 ·replace c3:=Bool.eq_false_iff.mpr c3;subst c3
  have H1:((fD.f k l0).bind fun An=>((cK.f k An).bind fun bt105=>((fC.f k bt105.1 bt105.2.1).bind fun bt112=>((bJ.f k bt105.1 bt105.2.1).bind fun bt116=>(if (bt112.2.2 != bt116.2.2)=true then (aX.j0 k l0 An bt105.1 bt105.2.1 bt112.2.2 bt116.2.2 true bt112.1 bt112.2.1) else (aX.j0 k l0 An bt105.1 bt105.2.1 bt112.2.2 bt116.2.2 (!bt112.2.2) bt112.1 bt112.2.1))))))=some r:=by rw [if_neg (show ¬ (false=true) by decide)] at H;exact H
  clear H;have H:=H1;clear H1;replace H:=ob H;obtain ⟨An,A40,H⟩:=H
  try dsimp only at H
  have A4:=aA.mk A40;clear A40;replace H:=ob H;obtain ⟨⟨Ac,Ah,t107⟩,A50,H⟩:=H
  try dsimp only at H
  have A5:=aA.mk A50;clear A50;replace H:=ob H;obtain ⟨⟨A8,Aa,Ax⟩,A60,H⟩:=H
  try dsimp only at H
  have A6:=aA.mk A60;clear A60;replace H:=ob H;obtain ⟨⟨Al,Ap,Az⟩,A70,H⟩:=H
  try dsimp only at H
  have A7:=aA.mk A70;clear A70;have HC8:=aA.mk H;clear H
  go_enter Try.func9,Try.ntmps9
  go_upto_region 7 with (first|((with_reducible refine aD (f:=11) rfl ?_);refine aT (some 22) rfl rfl Try.func11 (by kernel_rfl) rfl #[.slice A0 l0.length c0] rfl ml ?_;(with_reducible refine (iV.calls _ _ l0 false _ ?side1 ?side2 A2.out).mono ?_);(case side1=>exact cw HR0.out);(case side2=>exact HC0.out);rintro e w' ⟨rfl,⟨nd,rfl⟩⟩;refine ⟨_,rfl,?_⟩)|((with_reducible refine aD (f:=43) rfl ?_);refine aT (some 24) rfl rfl Try.func43 (by kernel_rfl) rfl #[.slice A0 l0.length c0] rfl ml ?_;(with_reducible refine (fD.calls k _ _ l0 An _ ?side1 ?side2 A4.out).mono ?_);(case side1=>exact cw HR0.out);(case side2=>exact HC0.out);rintro e w9 ⟨v103,rfl,ho0,hb⟩;refine ⟨_,rfl,?_⟩;have Am:=aA.mk (Kd.R_lower ho0 (aM (tb HB)));replace HB:=aA.mk (aE (tb HB) hb);(try clear hb);(try clear hb2);(try clear hk);(try clear hi);(try clear ho0);obtain ⟨Bi,Bj,eo10⟩:=Kd.R_slice Am.out;subst eo10)|((with_reducible refine aD (f:=44) rfl ?_);refine aT (some 27) rfl rfl Try.func44 (by kernel_rfl) rfl #[.slice Bi An.length Bj] rfl ml ?_;(with_reducible refine (cK.calls k _ _ An Ac Ah t107 _ ?side1 ?side2 A5.out).mono ?_);(case side1=>exact cw (Kd.R_reads' Am.out).2.2);(case side2=>exact (Kd.R_reads' Am.out).2.1);rintro e w11 ⟨v108,v110,rfl,ho0,ho1,hb⟩;refine ⟨_,rfl,?_⟩;have Aq:=aA.mk (Kd.R_lower ho0 (aM (tb HB)));have Ar:=aA.mk (Kd.R_lower (Kd.R_new' ho1 (Kd.R_lt (ra Am))) (aM (tb HB)));replace Am:=aA.mk (Kd.R_elder' (ra Am) (Kd.R_base ho1) hb);replace HB:=aA.mk (aE (tb HB) hb);(try clear hb);(try clear hb2);(try clear hk);(try clear hi);(try clear ho0);(try clear ho1);obtain ⟨Ba,B7,eo12⟩:=Kd.R_slice Aq.out;subst eo12;obtain ⟨B2,B0,eo13⟩:=Kd.R_slice Ar.out;subst eo13)|((with_reducible refine aD (f:=37) rfl ?_);refine aT (some 34) rfl rfl Try.func37 (by kernel_rfl) rfl #[.slice Ba Ac.length B7,.slice B2 Ah.length B0] rfl ml ?_;(with_reducible refine (fC.calls k _ _ Ac _ _ Ah A8 Aa Ax _ ?side1 ?side2 ?side3 ?side4 A6.out).mono ?_);(case side1=>exact cw (Kd.R_reads' Aq.out).2.2);(case side2=>exact (Kd.R_reads' Aq.out).2.1);(case side3=>exact cw (Kd.R_reads' Ar.out).2.2);(case side4=>exact (Kd.R_reads' Ar.out).2.1);rintro e w14 ⟨rfl,hb⟩;refine ⟨_,rfl,?_⟩;replace Am:=aA.mk (Kd.R_below (ra Am) hb);replace Aq:=aA.mk (Kd.R_below (ra Aq) hb);replace Ar:=aA.mk (Kd.R_below (ra Ar) hb);replace HB:=aA.mk (aE (tb HB) hb);(try clear hb);(try clear hb2);(try clear hk);(try clear hi))|((with_reducible refine bM (N:=7) rfl ?_);refine bx (N:=7) (cs:=#[.int .i64 0,.string (⟨#[]⟩:ByteArray)]) (t:=26) ?_;intro A9 hg w15 hbox hb;replace Am:=aA.mk (Kd.R_below (ra Am) hb);replace Aq:=aA.mk (Kd.R_below (ra Aq) hb);replace Ar:=aA.mk (Kd.R_below (ra Ar) hb);have A1:=aA.mk (hbox);have GW115:=aA.mk ((by rw [hg];exact (aM (tb HB)):w.heap.size≤A9));have GE115:=aA.mk ((by rw [hg];exact (aM (tb HB)):w.heap.size≤A9));replace HB:=aA.mk (aE (tb HB) hb);clear hb hbox hg;have hcz16__:=lP A1;have hfz16__:=f_ A1)|((with_reducible refine aD (f:=34) rfl ?_);refine aT (some 40) rfl rfl Try.func34 (by kernel_rfl) rfl #[.slice Ba Ac.length B7,.slice B2 Ah.length B0] rfl ml ?_;(with_reducible refine (bJ.calls k _ _ Ac _ _ Ah Al Ap Az _ ?side1 ?side2 ?side3 ?side4 A7.out).mono ?_);(case side1=>refine (Kd.R_reads' (e:=66) (base:=w.heap.size) (ok:=fun k_=>True) (n:=Ac.length) (c:=B7) ?_).2.2;exact (by (with_reducible repeat (first|apply Kd.R_alloc|apply Kd.R_drewN|apply Kd.R_drew));exact (Kd.R_mono (Kd.R_far (p:=⟨A9,1,none⟩) (Kd.R_far (p:=⟨A9,0,none⟩) (Kd.R_types Aq.out A1.out (by decide)) (fun _ hk=>hk.2) (.int .i64 A8)) (fun _ hk=>hk.2) (.string Aa)) (fun _ h_=>h_.1))));(case side2=>exact (Kd.R_reads' Aq.out).2.1);(case side3=>refine (Kd.R_reads' (e:=99) (base:=w.heap.size) (ok:=fun k_=>(True∧some k_≠(.slice Bi An.length Bj:Value).ownBlock)) (n:=Ah.length) (c:=B0) ?_).2.2;exact (by (with_reducible repeat (first|apply Kd.R_alloc|apply Kd.R_drewN|apply Kd.R_drew));exact (Kd.R_mono (Kd.R_far (p:=⟨A9,1,none⟩) (Kd.R_far (p:=⟨A9,0,none⟩) (Kd.R_types Ar.out A1.out (by decide)) (fun _ hk=>hk.2) (.int .i64 A8)) (fun _ hk=>hk.2) (.string Aa)) (fun _ h_=>h_.1))));(case side4=>exact (Kd.R_reads' Ar.out).2.1);rintro e w17 ⟨rfl,hb⟩;refine ⟨_,rfl,?_⟩;replace Am:=aA.mk (Kd.R_below (by (with_reducible repeat (first|apply Kd.R_alloc|apply Kd.R_drewN|apply Kd.R_drew));exact (Kd.R_mono (Kd.R_far (p:=⟨A9,1,none⟩) (Kd.R_far (p:=⟨A9,0,none⟩) (Kd.R_types Am.out A1.out (by decide)) (fun _ hk=>hk.2) (.int .i64 A8)) (fun _ hk=>hk.2) (.string Aa)) (fun _ h_=>h_.1))) hb);replace Aq:=aA.mk (Kd.R_below (by (with_reducible repeat (first|apply Kd.R_alloc|apply Kd.R_drewN|apply Kd.R_drew));exact (Kd.R_mono (Kd.R_far (p:=⟨A9,1,none⟩) (Kd.R_far (p:=⟨A9,0,none⟩) (Kd.R_types Aq.out A1.out (by decide)) (fun _ hk=>hk.2) (.int .i64 A8)) (fun _ hk=>hk.2) (.string Aa)) (fun _ h_=>h_.1))) hb);replace Ar:=aA.mk (Kd.R_below (by (with_reducible repeat (first|apply Kd.R_alloc|apply Kd.R_drewN|apply Kd.R_drew));exact (Kd.R_mono (Kd.R_far (p:=⟨A9,1,none⟩) (Kd.R_far (p:=⟨A9,0,none⟩) (Kd.R_types Ar.out A1.out (by decide)) (fun _ hk=>hk.2) (.int .i64 A8)) (fun _ hk=>hk.2) (.string Aa)) (fun _ h_=>h_.1))) hb);replace A1:=aA.mk (aQ (g:=A9) (o := .cells #[.int .i64 A8,.string Aa] 26 (0,0)) (by (with_reducible repeat (first|refine bH ?_ _|refine bE ?_|refine bK ?_ _));refine bF (cs:=#[.int .i64 A8,.string (⟨#[]⟩:ByteArray)]) ?_ 1 _ rfl;(with_reducible repeat (first|refine bH ?_ _|refine bE ?_|refine bK ?_ _));refine bF (cs:=#[.int .i64 0,.string (⟨#[]⟩:ByteArray)]) ?_ 0 _ rfl;(with_reducible repeat (first|refine bH ?_ _|refine bE ?_|refine bK ?_ _));exact A1.out) hb);replace HB:=aA.mk (aE (tb HB) hb);(try clear hb);(try clear hb2);(try clear hk);(try clear hi))|((with_reducible refine bM (N:=9) rfl ?_);refine bx (N:=9) (cs:=#[.int .i64 0,.string (⟨#[]⟩:ByteArray)]) (t:=26) ?_;intro Af hg w18 hbox hb;replace Am:=aA.mk (Kd.R_below (ra Am) hb);replace Aq:=aA.mk (Kd.R_below (ra Aq) hb);replace Ar:=aA.mk (Kd.R_below (ra Ar) hb);have A3:=aA.mk (hbox);have GW119:=aA.mk ((by rw [hg];exact (aM (tb HB)):w.heap.size≤Af));have GE119:=aA.mk ((by rw [hg];exact (aM (tb HB)):w.heap.size≤Af));replace HB:=aA.mk (aE (tb HB) hb);have Ao:=aA.mk ((by rw [hg];exact Nat.ne_of_lt (gA (g:=A9) (o := .cells #[.int .i64 A8,.string Aa] 26 (0,0)) (dr A1)):A9≠Af));have B3:=aA.mk ((by rw [hg];exact Nat.ne_of_gt (gA (g:=A9) (o := .cells #[.int .i64 A8,.string Aa] 26 (0,0)) (dr A1)):Af≠A9));replace A1:=aA.mk (aQ (g:=A9) (o := .cells #[.int .i64 A8,.string Aa] 26 (0,0)) (dr A1) hb);clear hb hbox hg;have hnb19:=B3.out;have hnc19:=Ao.out;have hcz20__:=lP A3;have hfz20__:=f_ A3))
  (try simp only [Act.put,List.setIfInBounds_toArray,List.set_cons_zero,List.set_cons_succ])
  go_cut [49] (fun v49 wc=>∃ (kq:Nat) (Bc:Bool),v49 = .bool Bc∧aA (aX.j0 kq l0 An Ac Ah Ax Az Bc A8 Aa=some r)∧aA (kq≤k)∧aA (Kd.R eV 99 wc w.heap.size (fun k_=>some k_≠((.slice B2 Ah.length B0):Value).ownBlock) (.slice Bi An.length Bj) An)∧aA (Kd.R jU 66 wc w.heap.size (fun _=>True) (.slice Ba Ac.length B7) Ac)∧aA (Kd.R eV 99 wc w.heap.size (fun k_=>some k_≠((.slice Bi An.length Bj):Value).ownBlock) (.slice B2 Ah.length B0) Ah)∧aA (wc.heap[A9]? = some (.cells #[.int .i64 A8,.string Aa] 26 (0,0)))∧aA (wc.heap[Af]? = some (.cells #[.int .i64 Al,.string Ap] 26 (0,0)))∧aA (Below w.heap.size w wc))
  case first =>
   have H:=HC8.out;clear HC8
   by_cases c21:(Ax != Az)=true
   ·rw [if_pos c21] at H;have c21b0:(Ax != Az)=true:=c21
    (try (have c21b1:decide (Ax=Az)=false:=by simpa using c21))
    (try (have c21b2:(Ax == Az)=false:=by simpa using c21))
    (try (have c21b3:¬ (Ax=Az):=by simpa using c21))
    clear c21;(first|rw [c21b0]|(simp only [aJ,aK];rw [c21b0])|skip);have H':=aA.mk H;clear H;go_wp2;go_meet
    case rel=>exact ⟨_,(true),(by first|rfl|(simp;done)|(simp [*];done)),H',⟨by first|omega|exact Nat.le_refl _⟩,⟨by (with_reducible repeat (first|apply Kd.R_alloc|apply Kd.R_drewN|apply Kd.R_drew));exact Kd.R_mono (Kd.R_far (p:=⟨Af,1,none⟩) (Kd.R_far (p:=⟨Af,0,none⟩) (Kd.R_types Am.out A3.out (by decide)) (fun _ hk=>hk.2) (.int .i64 Al)) (fun _ hk=>hk.2) (.string Ap)) (fun _ hk=>hk.1.2)⟩,⟨by exact rfs (Kd.R_types Aq.out A3.out (by decide))⟩,⟨by (with_reducible repeat (first|apply Kd.R_alloc|apply Kd.R_drewN|apply Kd.R_drew));exact Kd.R_mono (Kd.R_far (p:=⟨Af,1,none⟩) (Kd.R_far (p:=⟨Af,0,none⟩) (Kd.R_types Ar.out A3.out (by decide)) (fun _ hk=>hk.2) (.int .i64 Al)) (fun _ hk=>hk.2) (.string Ap)) (fun _ hk=>hk.1.2)⟩,⟨by (with_reducible repeat (first|refine bH ?_ _|refine bE ?_|refine bK ?_ _));refine dR ?_ Ao.out _;(with_reducible repeat (first|refine bH ?_ _|refine bE ?_|refine bK ?_ _));refine dR ?_ Ao.out _;(with_reducible repeat (first|refine bH ?_ _|refine bE ?_|refine bK ?_ _));exact A1.out⟩,⟨by (with_reducible repeat (first|refine bH ?_ _|refine bE ?_|refine bK ?_ _));refine bF (cs:=#[.int .i64 Al,.string (⟨#[]⟩:ByteArray)]) ?_ 1 _ rfl;(with_reducible repeat (first|refine bH ?_ _|refine bE ?_|refine bK ?_ _));refine bF (cs:=#[.int .i64 0,.string (⟨#[]⟩:ByteArray)]) ?_ 0 _ rfl;(with_reducible repeat (first|refine bH ?_ _|refine bE ?_|refine bK ?_ _));exact A3.out⟩,⟨by exact tb HB⟩⟩
   ·rw [if_neg c21] at H
    have c21b0:(Ax != Az)=false:=by simpa using c21
    (try (have c21b1:decide (Ax=Az)=true:=by simpa using c21))
    (try (have c21b2:(Ax == Az)=true:=by simpa using c21))
    clear c21;(first|rw [c21b0]|(simp only [aJ,aK];rw [c21b0])|skip);have H':=aA.mk H;clear H;go_wp2;go_meet
    case rel=>exact ⟨_,(!Ax),(by first|rfl|(simp;done)|(simp [*];done)),H',⟨by first|omega|exact Nat.le_refl _⟩,⟨by (with_reducible repeat (first|apply Kd.R_alloc|apply Kd.R_drewN|apply Kd.R_drew));exact Kd.R_mono (Kd.R_far (p:=⟨Af,1,none⟩) (Kd.R_far (p:=⟨Af,0,none⟩) (Kd.R_types Am.out A3.out (by decide)) (fun _ hk=>hk.2) (.int .i64 Al)) (fun _ hk=>hk.2) (.string Ap)) (fun _ hk=>hk.1.2)⟩,⟨by exact rfs (Kd.R_types Aq.out A3.out (by decide))⟩,⟨by (with_reducible repeat (first|apply Kd.R_alloc|apply Kd.R_drewN|apply Kd.R_drew));exact Kd.R_mono (Kd.R_far (p:=⟨Af,1,none⟩) (Kd.R_far (p:=⟨Af,0,none⟩) (Kd.R_types Ar.out A3.out (by decide)) (fun _ hk=>hk.2) (.int .i64 Al)) (fun _ hk=>hk.2) (.string Ap)) (fun _ hk=>hk.1.2)⟩,⟨by (with_reducible repeat (first|refine bH ?_ _|refine bE ?_|refine bK ?_ _));refine dR ?_ Ao.out _;(with_reducible repeat (first|refine bH ?_ _|refine bE ?_|refine bK ?_ _));refine dR ?_ Ao.out _;(with_reducible repeat (first|refine bH ?_ _|refine bE ?_|refine bK ?_ _));exact A1.out⟩,⟨by (with_reducible repeat (first|refine bH ?_ _|refine bE ?_|refine bK ?_ _));refine bF (cs:=#[.int .i64 Al,.string (⟨#[]⟩:ByteArray)]) ?_ 1 _ rfl;(with_reducible repeat (first|refine bH ?_ _|refine bE ?_|refine bK ?_ _));refine bF (cs:=#[.int .i64 0,.string (⟨#[]⟩:ByteArray)]) ?_ 0 _ rfl;(with_reducible repeat (first|refine bH ?_ _|refine bE ?_|refine bK ?_ _));exact A3.out⟩,⟨by exact tb HB⟩⟩
  case rest =>
   clear HC8;obtain ⟨kq,Bc,rfl,HA,HJ7,As,Ab,Ad,A1,A3,HB⟩:=hcut
   cases kq with
   | zero=>exact absurd HA.out (by simp [aX.j0])
   | succ kj7 =>
    have H:=HA.out;clear HA;simp only [aX.j0] at H
    by_cases c22:Bc=true
    ·subst c22
     have H1:(some (Ax == Az))=some r:=by rw [if_pos rfl] at H;exact H
     clear H;have H:=H1;clear H1;obtain rfl:=os H;go_wp2;go_ret;exact ⟨er,tb HB⟩
    ·replace c22:=Bool.eq_false_iff.mpr c22;subst c22
     have H1:((bZ.f kj7 A8 Aa).bind fun Bf=>(if Bf=true then ((dK.f kj7 An).bind fun B5=>(aX.j1 kj7 l0 Ac Ah (A8 != B5) A8 Aa)) else (aX.j1 kj7 l0 Ac Ah true A8 Aa)))=some r:=by rw [if_neg (show ¬ (false=true) by decide)] at H;exact H
     clear H;have H:=H1;clear H1;have HC23:=aA.mk H;clear H
     go_upto_region 9 with (fail)
     go_cut [62] (fun v62 wc=>∃ (kq:Nat) (B8:Bool),v62 = .bool B8∧aA (aX.j1 kq l0 Ac Ah B8 A8 Aa=some r)∧aA (kq≤kj7)∧aA (Kd.R jU 66 wc w.heap.size (fun _=>True) (.slice Ba Ac.length B7) Ac)∧aA (Kd.R eV 99 wc w.heap.size (fun _=>True) (.slice B2 Ah.length B0) Ah)∧aA (wc.heap[A9]? = some (.cells #[.int .i64 A8,.string Aa] 26 (0,0)))∧aA (wc.heap[Af]? = some (.cells #[.int .i64 Al,.string Ap] 26 (0,0)))∧aA (Below w.heap.size w wc))
     case first =>
      have H:=HC23.out;clear HC23;replace H:=ob H;obtain ⟨Bf,A240,H⟩:=H
      try dsimp only at H
      have A24:=aA.mk A240;clear A240
      by_cases c25:Bf=true
      ·subst c25
       have H1:((dK.f kj7 An).bind fun B5=>(aX.j1 kj7 l0 Ac Ah (A8 != B5) A8 Aa))=some r:=by rw [if_pos rfl] at H;exact H
       clear H;have H:=H1;clear H1;replace H:=ob H;obtain ⟨B5,A260,H⟩:=H;replace H:(aX.j1 kj7 l0 Ac Ah (A8 != B5) A8 Aa)=some r:=H;have A26:=aA.mk A260;clear A260;have H':=aA.mk H;clear H
       try go_wp2
       have n0_:=aA.mk (Kd.R_drew As.out);have n1_:=aA.mk (Kd.R_drew Ab.out);have n2_:=aA.mk (Kd.R_drew Ad.out);have n3_:=aA.mk (bE A1.out);have n4_:=aA.mk (bE A3.out);have n5_:=aA.mk (bQ HB.out);clear As;clear Ab;clear Ad;clear A1;clear A3;clear HB;have As:=n0_;have Ab:=n1_;have Ad:=n2_;have A1:=n3_;have A3:=n4_;have HB:=n5_;clear n0_ n1_ n2_ n3_ n4_ n5_;refine eW (n:=10) (S:=fun w'=>w'.cell? ⟨A9,0,none⟩=some (.int .i64 A8)∧w'.cell? ⟨A9,1,none⟩=some (.string Aa)) (ds:=[]) (tf 0 10) (by kernel_rfl) rfl rfl ⟨(aG A1.out 0).trans rfl,(aG A1.out 1).trans rfl⟩ (fun hHeld=>?_);refine jS aX.tab9 aX.bits9 (fun HT_ HW_=>?_);generalize wc.drew=w27 at As Ab Ad A1 A3 HB hHeld ⊢;refine xP HT_ HW_ 0 53 (tf 1 9) hHeld ?_;refine fZ (i:=1) (N:=some 54) (tf 2 8) rfl rfl (iO HT_.out (by kernel_rfl)) (by decide) (fun K hK=>?_);refine fV Try.func45 (by kernel_rfl) rfl #[.agg #[.int .i64 A8,.string Aa]] (by rfl) rfl rfl ml ?_
       with_reducible refine (bZ.calls kj7 A8 Aa true _ A24.out).mono ?_
       rintro e w28 ⟨rfl,hb⟩;refine ⟨_,rfl,?_⟩;have n0_:=aA.mk (Kd.R_below (ra As) hb);have n1_:=aA.mk (Kd.R_below (ra Ab) hb);have n2_:=aA.mk (Kd.R_below (ra Ad) hb);have n3_:=aA.mk (aQ (g:=A9) (o := .cells #[.int .i64 A8,.string Aa] 26 (0,0)) (dr A1) hb);have n4_:=aA.mk (aQ (g:=Af) (o := .cells #[.int .i64 Al,.string Ap] 26 (0,0)) (dr A3) hb);have n5_:=aA.mk (aE (tb HB) hb);clear As;clear Ab;clear Ad;clear A1;clear A3;clear HB;have As:=n0_;have Ab:=n1_;have Ad:=n2_;have A1:=n3_;have A3:=n4_;have HB:=n5_;clear n0_ n1_ n2_ n3_ n4_ n5_;(try clear hb);(try clear hb2);(try clear hk);(try clear hi);refine hK.out _ _ ⟨(aG A1.out 0).trans rfl,(aG A1.out 1).trans rfl⟩ (fun hHeld=>?_);clear hK K;refine dZ (a':=?_) ?_ ?_;rotate_left
       ·show Act.put _ (some 54) _=_
        simp only [Act.put,s1,s2,s3,aJ,aK];rfl
       refine kW HT_ 2 55 (tf 3 7) ?_;refine kW HT_ 3 56 (tf 4 6) ?_;refine kW HT_ 4 57 (tf 5 5) ?_;refine kW HT_ 6 59 #[true,true,true,true,true,false,true,false,false,false] ?_;refine xP HT_ HW_ 5 58 (tf 7 3) hHeld ?_;refine fZ (i:=7) (N:=some 60) (tf 8 2) rfl rfl (iO HT_.out (by kernel_rfl)) (by decide) (fun K hK=>?_);refine fV Try.func46 (by kernel_rfl) rfl #[.slice Bi An.length Bj] (by rfl) rfl rfl ml ?_
       with_reducible refine (dK.calls kj7 _ _ An B5 _ ?side1 ?side2 A26.out).mono ?_
       (case side1=>exact cw (Kd.R_reads' As.out).2.2)
       (case side2=>exact (Kd.R_reads' As.out).2.1)
       rintro e w29 ⟨rfl,hb⟩;refine ⟨_,rfl,?_⟩;have n0_:=aA.mk (Kd.R_below (ra As) hb);have n1_:=aA.mk (Kd.R_below (ra Ab) hb);have n2_:=aA.mk (Kd.R_below (ra Ad) hb);have n3_:=aA.mk (aQ (g:=A9) (o := .cells #[.int .i64 A8,.string Aa] 26 (0,0)) (dr A1) hb);have n4_:=aA.mk (aQ (g:=Af) (o := .cells #[.int .i64 Al,.string Ap] 26 (0,0)) (dr A3) hb);have n5_:=aA.mk (aE (tb HB) hb);clear As;clear Ab;clear Ad;clear A1;clear A3;clear HB;have As:=n0_;have Ab:=n1_;have Ad:=n2_;have A1:=n3_;have A3:=n4_;have HB:=n5_;clear n0_ n1_ n2_ n3_ n4_ n5_;(try clear hb);(try clear hb2);(try clear hk);(try clear hi);refine hK.out _ _ ⟨(aG A1.out 0).trans rfl,(aG A1.out 1).trans rfl⟩ (fun hHeld=>?_);clear hK K;refine dZ (a':=?_) ?_ ?_;rotate_left
       ·show Act.put _ (some 60) _=_
        simp only [Act.put,s1,s2,s3,aJ,aK];rfl
       refine kW HT_ 8 61 (tf 9 1) ?_;refine kW HT_ 9 62 (tf 10 0) ?_;refine gG (lJ HT_.out (by kernel_rfl)) ?_
       try go_wp2
       go_meet
       case rel=>exact ⟨_,((A8 != B5)),(by first|rfl|(simp;done)|(simp [*];done)),H',⟨by have:=HJ7.out;first|omega|exact Nat.le_refl _⟩,⟨ra Ab⟩,⟨by (with_reducible repeat (first|apply Kd.R_alloc|apply Kd.R_drewN|apply Kd.R_drew));exact Kd.R_mono Ad.out (fun _ hk=>trivial)⟩,⟨dr A1⟩,⟨dr A3⟩,⟨by exact tb HB⟩⟩
      ·replace c25:=Bool.eq_false_iff.mpr c25;subst c25
       have H1:(aX.j1 kj7 l0 Ac Ah true A8 Aa)=some r:=by rw [if_neg (show ¬ (false=true) by decide)] at H;exact H
       clear H;have H:=H1;clear H1;have H':=aA.mk H;clear H
       try go_wp2
       have n0_:=aA.mk (Kd.R_drew As.out);have n1_:=aA.mk (Kd.R_drew Ab.out);have n2_:=aA.mk (Kd.R_drew Ad.out);have n3_:=aA.mk (bE A1.out);have n4_:=aA.mk (bE A3.out);have n5_:=aA.mk (bQ HB.out);clear As;clear Ab;clear Ad;clear A1;clear A3;clear HB;have As:=n0_;have Ab:=n1_;have Ad:=n2_;have A1:=n3_;have A3:=n4_;have HB:=n5_;clear n0_ n1_ n2_ n3_ n4_ n5_;refine eW (n:=10) (S:=fun w'=>w'.cell? ⟨A9,0,none⟩=some (.int .i64 A8)∧w'.cell? ⟨A9,1,none⟩=some (.string Aa)) (ds:=[]) (tf 0 10) (by kernel_rfl) rfl rfl ⟨(aG A1.out 0).trans rfl,(aG A1.out 1).trans rfl⟩ (fun hHeld=>?_);refine jS aX.tab9 aX.bits9 (fun HT_ HW_=>?_);generalize wc.drew=w30 at As Ab Ad A1 A3 HB hHeld ⊢;refine xP HT_ HW_ 0 53 (tf 1 9) hHeld ?_;refine fZ (i:=1) (N:=some 54) (tf 2 8) rfl rfl (iO HT_.out (by kernel_rfl)) (by decide) (fun K hK=>?_);refine fV Try.func45 (by kernel_rfl) rfl #[.agg #[.int .i64 A8,.string Aa]] (by rfl) rfl rfl ml ?_
       with_reducible refine (bZ.calls kj7 A8 Aa false _ A24.out).mono ?_
       rintro e w31 ⟨rfl,hb⟩;refine ⟨_,rfl,?_⟩;have n0_:=aA.mk (Kd.R_below (ra As) hb);have n1_:=aA.mk (Kd.R_below (ra Ab) hb);have n2_:=aA.mk (Kd.R_below (ra Ad) hb);have n3_:=aA.mk (aQ (g:=A9) (o := .cells #[.int .i64 A8,.string Aa] 26 (0,0)) (dr A1) hb);have n4_:=aA.mk (aQ (g:=Af) (o := .cells #[.int .i64 Al,.string Ap] 26 (0,0)) (dr A3) hb);have n5_:=aA.mk (aE (tb HB) hb);clear As;clear Ab;clear Ad;clear A1;clear A3;clear HB;have As:=n0_;have Ab:=n1_;have Ad:=n2_;have A1:=n3_;have A3:=n4_;have HB:=n5_;clear n0_ n1_ n2_ n3_ n4_ n5_;(try clear hb);(try clear hb2);(try clear hk);(try clear hi);refine hK.out _ _ ⟨(aG A1.out 0).trans rfl,(aG A1.out 1).trans rfl⟩ (fun hHeld=>?_);clear hK K;refine dZ (a':=?_) ?_ ?_;rotate_left
       ·show Act.put _ (some 54) _=_
        simp only [Act.put,s1,s2,s3,aJ,aK];rfl
       refine kW HT_ 2 55 (tf 3 7) ?_;refine kW HT_ 3 56 (tf 4 6) ?_;refine puT HT_ 4 57 (tf 5 5) ?_;refine puT HT_ 5 58 (tf 6 4) ?_;refine puT HT_ 6 59 (tf 7 3) ?_;refine puT HT_ 7 60 (tf 8 2) ?_;refine puT HT_ 8 61 (tf 9 1) ?_;refine kW HT_ 9 62 (tf 10 0) ?_;refine gG (lJ HT_.out (by kernel_rfl)) ?_
       try go_wp2
       go_meet
       case rel=>exact ⟨_,(true),(by first|rfl|(simp;done)|(simp [*];done)),H',⟨by have:=HJ7.out;first|omega|exact Nat.le_refl _⟩,⟨ra Ab⟩,⟨by (with_reducible repeat (first|apply Kd.R_alloc|apply Kd.R_drewN|apply Kd.R_drew));exact Kd.R_mono Ad.out (fun _ hk=>trivial)⟩,⟨dr A1⟩,⟨dr A3⟩,⟨by exact tb HB⟩⟩
     case rest =>
      clear HC23;obtain ⟨kq,B8,rfl,HA,HJ22,Ab,Ad,A1,A3,HB⟩:=hcut
      cases kq with
      | zero=>exact absurd HA.out (by simp [aX.j1])
      | succ kj22 =>
       have H:=HA.out;clear HA;simp only [aX.j1] at H
       by_cases c32:B8=true
       ·subst c32
        have H1:(some false)=some r:=by rw [if_pos rfl] at H;exact H
        clear H;have H:=H1;clear H1;exact absurd ((Option.some.inj H).trans HT.out) (by decide)
       ·replace c32:=Bool.eq_false_iff.mpr c32;subst c32
        have H1:(aX.l0 kj22 l0 Ac Ah 0 A8 Aa)=some r:=by rw [if_neg (show ¬ (false=true) by decide)] at H;exact H
        clear H;have H:=H1;clear H1;have H':=aA.mk H;clear H;go_wp2
        go_loopg [11] kj22 (fun kq v11 w'=>∃ (Aj:Int),v11 = .int .i64 Aj∧aA (aX.l0 kq l0 Ac Ah Aj A8 Aa=some r)∧aA (kq≤kj22)∧aA (Kd.R jU 66 w' w.heap.size (fun _=>True) (.slice Ba Ac.length B7) Ac)∧aA (Kd.R eV 99 w' w.heap.size (fun _=>True) (.slice B2 Ah.length B0) Ah)∧aA (w'.heap[A9]? = some (.cells #[.int .i64 A8,.string Aa] 26 (0,0)))∧aA (w'.heap[Af]? = some (.cells #[.int .i64 Al,.string Ap] 26 (0,0)))∧aA (Below w.heap.size w w'))
        case atStart=>exact ⟨(0),(by first|rfl|(simp;done)|(simp [*];done)),H',⟨Nat.le_refl _⟩,⟨ra Ab⟩,⟨ra Ad⟩,⟨dr A1⟩,⟨dr A3⟩,⟨by exact tb HB⟩⟩
        case round =>
         clear H';obtain ⟨Aj,rfl,HA,HK3,Ab,Ad,A1,A3,HB⟩:=hrel
         cases gk with
         | zero=>exact absurd HA.out (by simp [aX.l0])
         | succ k3 =>
          have H:=HA.out;clear HA;simp only [aX.l0] at H
          by_cases c33:Aj < 6
          ·rw [if_pos c33] at H;have c33b0:decide (Aj < 6)=true:=decide_eq_true c33;clear c33;obtain ⟨y124,hy124⟩:∃ y_:List Int,y_=(([]:List Int)):=⟨_,rfl⟩;replace H:(aX.l1 k3 l0 Ac Ah Aj y124 (([]:List Int)) 0 A8 Aa)=some r:=gM hy124 H;have Ny124:=aA.mk hy124;clear hy124;obtain ⟨y127,hy127⟩:∃ y_:List Int,y_=(([]:List Int)):=⟨_,rfl⟩;replace H:(aX.l1 k3 l0 Ac Ah Aj y124 y127 0 A8 Aa)=some r:=gM hy127 H;have Ny127:=aA.mk hy127;clear hy127;have H':=aA.mk H;clear H;go_wp2_with (first|((with_reducible refine bM (N:=67) rfl ?_);refine Kd.R_lit (Kd.int .i64) _ 3 ?hg (N:=67) ?hd (xs:=([]:List Int)) (inner:=[]) (ok:=fun _=>True) (okp:=fun _=>True) ?hr ?hp (fun _ hk=>hk) trivial (Below.refl _ _) (Nat.le_refl _) (by simp) ?_;(case hd=>rfl);(case hg=>rfl);(case hr=>first|(go_simp;done)|(go_simp;rfl));(case hp=>exact (cP.none _ _));intro v125 w34 ho35 hb hg_ hnew_;clear hg_ hnew_;(first|rw [← Ny124.out] at ho35|(simp only [Int.reduceToNat] at ho35;rw [← Ny124.out] at ho35));replace Ab:=aA.mk (Kd.R_below (ra Ab) hb);replace Ad:=aA.mk (Kd.R_below (ra Ad) hb);have Bd:=aA.mk (Kd.R_lower ho35 (aM (tb HB)));replace A1:=aA.mk (aQ (g:=A9) (o := .cells #[.int .i64 A8,.string Aa] 26 (0,0)) (dr A1) hb);replace A3:=aA.mk (aQ (g:=Af) (o := .cells #[.int .i64 Al,.string Ap] 26 (0,0)) (dr A3) hb);replace HB:=aA.mk (aE (tb HB) hb);clear hb ho35)|((with_reducible refine bM (N:=68) rfl ?_);refine Kd.R_lit (Kd.int .i64) _ 3 ?hg (N:=68) ?hd (xs:=([]:List Int)) (inner:=[]) (ok:=fun _=>True) (okp:=fun _=>True) ?hr ?hp (fun _ hk=>hk) trivial (Below.refl _ _) (Nat.le_refl _) (by simp) ?_;(case hd=>rfl);(case hg=>rfl);(case hr=>first|(go_simp;done)|(go_simp;rfl));(case hp=>exact (cP.none _ _));intro v128 w36 ho37 hb hg_ hnew_;clear hg_ hnew_;(first|rw [← Ny127.out] at ho37|(simp only [Int.reduceToNat] at ho37;rw [← Ny127.out] at ho37));replace Ab:=aA.mk (Kd.R_below (ra Ab) hb);replace Ad:=aA.mk (Kd.R_below (ra Ad) hb);have Bl:=aA.mk (Kd.R_lower (Kd.R_new' ho37 (Kd.R_lt (ra Bd))) (aM (tb HB)));replace Bd:=aA.mk (Kd.R_elder' (ra Bd) (Kd.R_base ho37) hb);replace A1:=aA.mk (aQ (g:=A9) (o := .cells #[.int .i64 A8,.string Aa] 26 (0,0)) (dr A1) hb);replace A3:=aA.mk (aQ (g:=Af) (o := .cells #[.int .i64 Al,.string Ap] 26 (0,0)) (dr A3) hb);replace HB:=aA.mk (aE (tb HB) hb);clear hb ho37))
           go_loopg [13,14] k3 (fun kq v13 v14 w'=>∃ (B1:List Int) (Au:Int),v14 = .int .i64 Au∧aA (aX.l1 kq l0 Ac Ah Aj y124 B1 Au A8 Aa=some r)∧aA (kq≤k3)∧aA (Kd.R jU 66 w' w.heap.size (fun _=>True) (.slice Ba Ac.length B7) Ac)∧aA (Kd.R eV 99 w' w.heap.size (fun _=>True) (.slice B2 Ah.length B0) Ah)∧aA (Kd.R (Kd.int .i64) 3 w' w.heap.size (fun k_=>some k_≠(v13:Value).ownBlock) v125 y124)∧aA (Kd.R (Kd.int .i64) 3 w' w.heap.size (fun k_=>some k_≠(v125:Value).ownBlock) v13 B1)∧aA (w'.heap[A9]? = some (.cells #[.int .i64 A8,.string Aa] 26 (0,0)))∧aA (w'.heap[Af]? = some (.cells #[.int .i64 Al,.string Ap] 26 (0,0)))∧aA (Below w.heap.size w w'))
           case atStart=>exact ⟨(y127),(0),(by first|rfl|(simp;done)|(simp [*];done)),H',⟨Nat.le_refl _⟩,⟨ra Ab⟩,⟨ra Ad⟩,⟨by (with_reducible repeat (first|apply Kd.R_alloc|apply Kd.R_drewN|apply Kd.R_drew));exact Kd.R_mono Bd.out (fun _ hk=>hk.2)⟩,⟨by (with_reducible repeat (first|apply Kd.R_alloc|apply Kd.R_drewN|apply Kd.R_drew));exact Kd.R_mono Bl.out (fun _ hk=>hk.2)⟩,⟨dr A1⟩,⟨dr A3⟩,⟨by exact tb HB⟩⟩
           case round =>
            clear H';obtain ⟨B1,Au,rfl,HA,HK4,Ab,Ad,Ai,Ag,A1,A3,HB⟩:=hrel
            cases gk with
            | zero=>exact absurd HA.out (by simp [aX.l1])
            | succ k4 =>
             have H:=HA.out;clear HA;simp only [aX.l1] at H
             by_cases c38:Au < 8
             ·rw [if_pos c38] at H;have c38b0:decide (Au < 8)=true:=decide_eq_true c38;clear c38
              by_cases c39:B1.length < 17592186044416
              ·rw [if_pos c39] at H;have LMc39:=aA.mk c39;clear c39;obtain ⟨y130,hy130⟩:∃ y_:List Int,y_=(B1 ++ [0]):=⟨_,rfl⟩;replace H:(aX.l1 k4 l0 Ac Ah Aj y124 y130 (wrap64 (Au + 1)) A8 Aa)=some r:=gM hy130 H;have Ny130:=aA.mk hy130;clear hy130;have H':=aA.mk H;clear H;go_wp2_with (first|((with_reducible refine cM (b := .append) (xs:=#[.tmp 73,.tmp 74]) rfl ?_);at_builtin;refine Kd.R_append (Kd.int .i64) (w0:=w) w.heap.size rfl (.tmp 73) (.tmp 74) 31 3 (.int .i64 0) 8 rfl Try.underlying31 info3 rfl (by decide) (by omega) u13 B1 0 [.int .i64 0] (fun k_=>some k_≠(v125:Value).ownBlock) (fun _=>False) rfl rfl ?aP (fun _ hk=>hk.elim) ?aF ?aO ?aB ?aS ?aL ?_;(case aP=>exact rfl);(case aB=>exact (tb HB));(case aF=>exact (fun k_ hk=>Kd.fresh' (Kd.R_lt (ra Ai)) k_ hk));(case aO=>exact (ra Ag));(case aS=>exact (aM (tb HB)));(case aL=>have:=LMc39.out;omega);intro v131 w40 ho hb hg hat;rw [← Ny130.out] at ho;replace Ab:=aA.mk (Kd.R_over' (ra Ab) (Kd.R_typed (ra Ag)) (by decide) hg);replace Ad:=aA.mk (Kd.R_over' (ra Ad) (Kd.R_typed (ra Ag)) (by decide) hg);replace Ai:=aA.mk (Kd.R_after (ok:=(fun _=>True)) (by (with_reducible repeat (first|apply Kd.R_alloc|apply Kd.R_drewN|apply Kd.R_drew));exact Kd.R_mono Ai.out (fun _ hk=>⟨trivial,hk⟩)) hg hat);replace A1:=aA.mk (dO (g:=A9) (o := .cells #[.int .i64 A8,.string Aa] 26 (0,0)) (dr A1) hg (Kd.R_ne Ag.out A1.out (by decide)));replace A3:=aA.mk (dO (g:=Af) (o := .cells #[.int .i64 Al,.string Ap] 26 (0,0)) (dr A3) hg (Kd.R_ne Ag.out A3.out (by decide)));replace HB:=aA.mk (hb);have Bm:=aA.mk (ho);clear Ag;clear ho hb hg hat));go_roundg k4
               case measure=>have:=HJ7.out;have:=HJ22.out;have:=HK3.out;have:=HK4.out;omega
               case rel=>exact ⟨(y130),(wrap64 (Au + 1)),(by first|rfl|(simp;done)|(simp [*];done)),H',⟨by have:=HJ7.out;have:=HJ22.out;have:=HK3.out;have:=HK4.out;omega⟩,⟨ra Ab⟩,⟨ra Ad⟩,⟨by (with_reducible repeat (first|apply Kd.R_alloc|apply Kd.R_drewN|apply Kd.R_drew));exact Kd.R_mono Ai.out (fun _ hk=>hk.2)⟩,⟨ra Bm⟩,⟨dr A1⟩,⟨dr A3⟩,⟨by exact tb HB⟩⟩
              ·rw [if_neg c39] at H;exact absurd H (by simp)
             ·rw [if_neg c38] at H;have c38b0:decide (Au < 8)=false:=decide_eq_false c38;clear c38;have H':=aA.mk H;clear H;go_wp2
              go_loopg [12,15] k4 (fun kq v12 v15 w'=>∃ (B4:List Int) (Ak:List Int) (Ae:Int),v15 = .int .i64 Ae∧aA (aX.l2 kq l0 Ac Ah Aj B4 Ak Ae A8 Aa=some r)∧aA (kq≤k4)∧aA (Kd.R jU 66 w' w.heap.size (fun _=>True) (.slice Ba Ac.length B7) Ac)∧aA (Kd.R eV 99 w' w.heap.size (fun _=>True) (.slice B2 Ah.length B0) Ah)∧aA (Kd.R (Kd.int .i64) 3 w' w.heap.size (fun k_=>some k_≠(u13:Value).ownBlock) v12 B4)∧aA (Kd.R (Kd.int .i64) 3 w' w.heap.size (fun k_=>some k_≠(v12:Value).ownBlock) u13 Ak)∧aA (w'.heap[A9]? = some (.cells #[.int .i64 A8,.string Aa] 26 (0,0)))∧aA (w'.heap[Af]? = some (.cells #[.int .i64 Al,.string Ap] 26 (0,0)))∧aA (Below w.heap.size w w'))
              case atStart=>exact ⟨(y124),(B1),(0),(by first|rfl|(simp;done)|(simp [*];done)),H',⟨Nat.le_refl _⟩,⟨ra Ab⟩,⟨ra Ad⟩,⟨ra Ai⟩,⟨ra Ag⟩,⟨dr A1⟩,⟨dr A3⟩,⟨by exact tb HB⟩⟩
              case round =>
               clear H';obtain ⟨B4,Ak,Ae,rfl,HA,HK5,Ab,Ad,Ai,Ag,A1,A3,HB⟩:=hrel
               cases gk with
               | zero=>exact absurd HA.out (by simp [aX.l2])
               | succ k5 =>
                have H:=HA.out;clear HA;simp only [aX.l2] at H
                by_cases c41:Ae < (Ac.length:Int)
                ·rw [if_pos c41] at H;have c41b0:decide (Ae < (Ac.length:Int))=true:=decide_eq_true c41;clear c41;have H':=aA.mk H;clear H;go_wp2
                 go_loopg [12,16,17] k5 (fun kq v12 v16 v17 w'=>∃ (At:List Int) (Av:Int) (Aw:Int),v16 = .int .i64 Av∧v17 = .int .i64 Aw∧aA (aX.l3 kq l0 Ac Ah Aj At Ak Ae Av Aw A8 Aa=some r)∧aA (kq≤k5)∧aA (Kd.R jU 66 w' w.heap.size (fun _=>True) (.slice Ba Ac.length B7) Ac)∧aA (Kd.R eV 99 w' w.heap.size (fun _=>True) (.slice B2 Ah.length B0) Ah)∧aA (Kd.R (Kd.int .i64) 3 w' w.heap.size (fun k_=>some k_≠(u13:Value).ownBlock) v12 At)∧aA (Kd.R (Kd.int .i64) 3 w' w.heap.size (fun k_=>some k_≠(v12:Value).ownBlock) u13 Ak)∧aA (w'.heap[A9]? = some (.cells #[.int .i64 A8,.string Aa] 26 (0,0)))∧aA (w'.heap[Af]? = some (.cells #[.int .i64 Al,.string Ap] 26 (0,0)))∧aA (Below w.heap.size w w'))
                 case atStart=>exact ⟨(B4),(0),(0),(by first|rfl|(simp;done)|(simp [*];done)),(by first|rfl|(simp;done)|(simp [*];done)),H',⟨Nat.le_refl _⟩,⟨ra Ab⟩,⟨ra Ad⟩,⟨ra Ai⟩,⟨ra Ag⟩,⟨dr A1⟩,⟨dr A3⟩,⟨by exact tb HB⟩⟩
                 case round =>
                  clear H';obtain ⟨At,Av,Aw,rfl,rfl,HA,HK6,Ab,Ad,Ai,Ag,A1,A3,HB⟩:=hrel
                  cases gk with
                  | zero=>exact absurd HA.out (by simp [aX.l3])
                  | succ k6 =>
                   have H:=HA.out;clear HA;simp only [aX.l3] at H
                   by_cases c42:0≤Ae
                   ·rw [if_pos c42] at H;have c42b0:decide (0≤Ae)=true:=decide_eq_true c42;clear c42
                    by_cases c43:Ae < (Ac.length:Int)
                    ·rw [if_pos c43] at H;have c43b0:decide (Ae < (Ac.length:Int))=true:=decide_eq_true c43;clear c43
                     by_cases c44:Aw < ((aI Ac Ae).f2)
                     ·rw [if_pos c44] at H;have c44b0:decide (Aw < ((aI Ac Ae).f2))=true:=decide_eq_true c44;clear c44;replace H:=ob H;obtain ⟨B6,A450,H⟩:=H
                      try dsimp only at H
                      have A45:=aA.mk A450;clear A450
                      by_cases c46:At.length < 17592186044416
                      ·rw [if_pos c46] at H;have LMc46:=aA.mk c46;clear c46;obtain ⟨y135,hy135⟩:∃ y_:List Int,y_=(At ++ [Int.tmod B6 2]):=⟨_,rfl⟩;replace H:(aX.l3 k6 l0 Ac Ah Aj y135 Ak Ae (wrap64 ((wrap64 (2 * Av)) + (Int.tmod B6 2))) (wrap64 (Aw + 1)) A8 Aa)=some r:=gM hy135 H;have Ny135:=aA.mk hy135;clear hy135;have H':=aA.mk H;clear H;have p133:0≤(Ae:Int):=od;have q133:Ae < (Ac.length:Int):=od;obtain ⟨ad133,e133,hx133_0,hx133_1,hx133_2⟩:=gT (Kd.R_reads' Ab.out).2.2 Ae p133 q133;cases e133;replace p133:=eq_true p133;replace q133:=eq_true q133;obtain ⟨Ao47,co47,eo47⟩:=Kd.R_slice Ai.out;subst eo47;go_wp2_with (first|((with_reducible refine aD (f:=18) rfl ?_);refine aT (some 97) rfl rfl Try.func18 (by kernel_rfl) rfl #[.slice A0 l0.length c0,.int .i64 (wrap64 ((wrap64 (Aj * 20)) + (At.length:Int)))] rfl ml ?_;(with_reducible refine (kU.calls _ _ l0 (wrap64 ((wrap64 (Aj * 20)) + (At.length:Int))) B6 _ ?side1 ?side2 A45.out).mono ?_);(case side1=>exact cw (Kd.C_below HR0.out HB.out));(case side2=>exact HC0.out);rintro e w' ⟨rfl,⟨nd,rfl⟩⟩;refine ⟨_,rfl,?_⟩)|((with_reducible refine cM (b := .append) (xs:=#[.tmp 99,.tmp 101]) rfl ?_);at_builtin;refine Kd.R_append (Kd.int .i64) (w0:=w) w.heap.size rfl (.tmp 99) (.tmp 101) 31 3 (.int .i64 0) 8 rfl Try.underlying31 info3 rfl (by decide) (by omega) (.slice Ao47 At.length co47) At (Int.tmod B6 2) [.int .i64 (Int.tmod B6 2)] (fun k_=>some k_≠(u13:Value).ownBlock) (fun _=>False) rfl rfl ?aP (fun _ hk=>hk.elim) ?aF ?aO ?aB ?aS ?aL ?_;(case aP=>exact rfl);(case aB=>exact (tb HB));(case aF=>exact (fun k_ hk=>Kd.fresh' (Kd.R_lt (ra Ag)) k_ hk));(case aO=>exact (ra Ai));(case aS=>exact (aM (tb HB)));(case aL=>have:=LMc46.out;omega);intro v136 w48 ho hb hg hat;rw [← Ny135.out] at ho;replace Ab:=aA.mk (Kd.R_over' (ra Ab) (Kd.R_typed (ra Ai)) (by decide) hg);replace Ad:=aA.mk (Kd.R_over' (ra Ad) (Kd.R_typed (ra Ai)) (by decide) hg);replace Ag:=aA.mk (Kd.R_after (ok:=(fun _=>True)) (by (with_reducible repeat (first|apply Kd.R_alloc|apply Kd.R_drewN|apply Kd.R_drew));exact Kd.R_mono Ag.out (fun _ hk=>⟨trivial,hk⟩)) hg hat);replace A1:=aA.mk (dO (g:=A9) (o := .cells #[.int .i64 A8,.string Aa] 26 (0,0)) (dr A1) hg (Kd.R_ne Ai.out A1.out (by decide)));replace A3:=aA.mk (dO (g:=Af) (o := .cells #[.int .i64 Al,.string Ap] 26 (0,0)) (dr A3) hg (Kd.R_ne Ai.out A3.out (by decide)));replace HB:=aA.mk (hb);have Bn:=aA.mk (ho);clear Ai;clear ho hb hg hat));go_roundg k6
                       case measure=>have:=HJ7.out;have:=HJ22.out;have:=HK3.out;have:=HK4.out;have:=HK5.out;have:=HK6.out;omega
                       case rel=>exact ⟨(y135),(wrap64 ((wrap64 (2 * Av)) + (Int.tmod B6 2))),(wrap64 (Aw + 1)),(by first|rfl|(simp;done)|(simp [*];done)),(by first|rfl|(simp;done)|(simp [*];done)),H',⟨by have:=HJ7.out;have:=HJ22.out;have:=HK3.out;have:=HK4.out;have:=HK5.out;have:=HK6.out;omega⟩,⟨ra Ab⟩,⟨ra Ad⟩,⟨ra Bn⟩,⟨by (with_reducible repeat (first|apply Kd.R_alloc|apply Kd.R_drewN|apply Kd.R_drew));exact Kd.R_mono Ag.out (fun _ hk=>hk.2)⟩,⟨dr A1⟩,⟨dr A3⟩,⟨by exact tb HB⟩⟩
                      ·rw [if_neg c46] at H;exact absurd H (by simp)
                     ·rw [if_neg c44] at H;have c44b0:decide (Aw < ((aI Ac Ae).f2))=false:=decide_eq_false c44;clear c44
                      by_cases c49:0≤((aI Ac Ae).f1)
                      ·rw [if_pos c49] at H;have c49b0:decide (0≤((aI Ac Ae).f1))=true:=decide_eq_true c49;clear c49
                       by_cases c50:((aI Ac Ae).f1) < (Ak.length:Int)
                       ·rw [if_pos c50] at H;have c50b0:decide (((aI Ac Ae).f1) < (Ak.length:Int))=true:=decide_eq_true c50;clear c50;obtain ⟨y139,hy139⟩:∃ y_:List Int,y_=(Ak.set (((aI Ac Ae).f1):Int).toNat Av):=⟨_,rfl⟩;replace H:(aX.l2 k6 l0 Ac Ah Aj At y139 (wrap64 (Ae + 1)) A8 Aa)=some r:=gM hy139 H;have Ny139:=aA.mk hy139;clear hy139;have H':=aA.mk H;clear H;have p133:0≤(Ae:Int):=od;have q133:Ae < (Ac.length:Int):=od;obtain ⟨ad133,e133,hx133_0,hx133_1,hx133_2⟩:=gT (Kd.R_reads' Ab.out).2.2 Ae p133 q133;cases e133;replace p133:=eq_true p133;replace q133:=eq_true q133;have p138:0≤(Ae:Int):=od;have q138:Ae < (Ac.length:Int):=od;obtain ⟨ad138,e138,hx138_0,hx138_1,hx138_2⟩:=gT (Kd.R_reads' Ab.out).2.2 Ae p138 q138;obtain rfl:ad133=ad138:=(by injection e138);replace p138:=eq_true p138;replace q138:=eq_true q138;have p51:0≤(((aI Ac Ae).f1):Int):=od;have q51:(((aI Ac Ae).f1):Int) < ((Ak.length:Int):Int):=od;obtain ⟨go51,Bk,eo51,Bo,gl51,cl51,HG51⟩:=Kd.R_form Ag.out (by omega);(first|cases eo51|(injection eo51 with ea_ en_ ec_;(first|subst ea_|(injection ea_ with ea_;subst ea_));subst ec_;clear en_));have GB51:=aA.mk Bo;have GG51:=aA.mk HG51;clear Bo gl51 HG51;obtain ⟨hx51_0,hf51_0⟩:=Kd.R_celln 0 Ag.out (((aI Ac Ae).f1):Int) p51 q51;replace p51:=eq_true p51;replace q51:=eq_true q51;have HP52:=Kd.R_putg Ag.out (((aI Ac Ae).f1):Int) Av;go_wp2_with (first|((with_reducible refine jW (t:=3) (p:=114) rfl ?_);refine iX (t:=3) (p:=114) (v:=?vo_w53) (w1:=(wr.setCell ⟨go51,(((aI Ac Ae).f1):Int).toNat,none⟩ (.int .i64 Av))) ?hg ?ho ?hn ?hr ?_;(case ho=>rfl);(case hg=>rfl);(case hn=>rfl);(case hr=>first|(go_simp;done)|(go_simp;rfl));intro w53 hw;have hg:wr.grownBy w53 (some go51):=(by rw [hw];exact HP52.2);have hp_:Kd.R (Kd.int .i64) 3 w53 w.heap.size (fun k_=>some k_≠(u12:Value).ownBlock) (.slice (some ⟨go51,0,none⟩) Ak.length Bk) y139:=(by rw [hw,Ny139.out];exact HP52.1);clear HP52;replace Ab:=aA.mk (Kd.R_over' (v:=(.slice (some ⟨go51,0,none⟩) Ak.length Bk)) (ra Ab) (Kd.R_typed Ag.out) (by decide) hg);replace Ad:=aA.mk (Kd.R_over' (v:=(.slice (some ⟨go51,0,none⟩) Ak.length Bk)) (ra Ad) (Kd.R_typed Ag.out) (by decide) hg);replace Ai:=aA.mk (Kd.R_after (v:=(.slice (some ⟨go51,0,none⟩) Ak.length Bk)) (v1:=(.slice (some ⟨go51,0,none⟩) Ak.length Bk)) (ok:=(fun _=>True)) (by (with_reducible repeat (first|apply Kd.R_alloc|apply Kd.R_drewN|apply Kd.R_drew));exact Kd.R_mono Ai.out (fun _ hk=>⟨trivial,hk⟩)) hg (.inl rfl));replace A1:=aA.mk (dO (g:=A9) (o := .cells #[.int .i64 A8,.string Aa] 26 (0,0)) (dr A1) hg (Kd.R_ne Ag.out A1.out (by decide)));replace A3:=aA.mk (dO (g:=Af) (o := .cells #[.int .i64 Al,.string Ap] 26 (0,0)) (dr A3) hg (Kd.R_ne Ag.out A3.out (by decide)));replace Ag:=aA.mk (hp_);replace HB:=aA.mk ((by rw [hw];exact aZ (HB.out) GB51.out:Below w.heap.size w w53));clear hg hw hp_));go_roundg k6
                        case measure=>have:=HJ7.out;have:=HJ22.out;have:=HK3.out;have:=HK4.out;have:=HK5.out;have:=HK6.out;omega
                        case rel=>exact ⟨(At),(y139),(wrap64 (Ae + 1)),(by first|rfl|(simp;done)|(simp [*];done)),H',⟨by have:=HJ7.out;have:=HJ22.out;have:=HK3.out;have:=HK4.out;have:=HK5.out;have:=HK6.out;omega⟩,⟨ra Ab⟩,⟨ra Ad⟩,⟨by (with_reducible repeat (first|apply Kd.R_alloc|apply Kd.R_drewN|apply Kd.R_drew));exact Kd.R_mono Ai.out (fun _ hk=>hk.2)⟩,⟨ra Ag⟩,⟨dr A1⟩,⟨dr A3⟩,⟨by exact tb HB⟩⟩
                       ·rw [if_neg c50] at H;exact absurd H (by simp)
                      ·rw [if_neg c49] at H;exact absurd H (by simp)
                    ·rw [if_neg c43] at H;exact absurd H (by simp)
                   ·rw [if_neg c42] at H;exact absurd H (by simp)
                ·rw [if_neg c41] at H;have c41b0:decide (Ae < (Ac.length:Int))=false:=decide_eq_false c41;clear c41;replace H:=ob H;obtain ⟨⟨Bb,t141⟩,A540,H⟩:=H
                 try dsimp only at H
                 have A54:=aA.mk A540;clear A540
                 by_cases c55:t141=true
                 ·subst c55
                  have H1:((dF.f k5 A8 Aa B4).bind fun Ay=>(if Ay=Bb then (aX.l0 k5 l0 Ac Ah (wrap64 (Aj + 1)) A8 Aa) else (some false)))=some r:=by rw [if_pos rfl] at H;exact H
                  clear H;have H:=H1;clear H1;replace H:=ob H;obtain ⟨Ay,A560,H⟩:=H;replace H:(if Ay=Bb then (aX.l0 k5 l0 Ac Ah (wrap64 (Aj + 1)) A8 Aa) else (some false))=some r:=H;have A56:=aA.mk A560;clear A560
                  by_cases c57:Ay=Bb
                  ·rw [if_pos c57] at H;have c57b0:(Ay == Bb)=true:=beq_iff_eq.mpr c57;have c57b1:(Ay != Bb)=false:=bne_eq_false_iff_eq.mpr c57;clear c57;have H':=aA.mk H;clear H;obtain ⟨Ao58,co58,eo58⟩:=Kd.R_slice Ag.out;subst eo58;go_wp2_with (first|((with_reducible refine aD (f:=47) rfl ?_);refine aT (some 118) rfl rfl Try.func47 (by kernel_rfl) rfl #[.slice B2 Ah.length B0,.slice Ao58 Ak.length co58] rfl ml ?_;(with_reducible refine (cS.calls k5 _ _ Ah _ _ Ak Bb true _ ?side1 ?side2 ?side3 ?side4 A54.out).mono ?_);(case side1=>exact cw (Kd.R_reads' Ad.out).2.2);(case side2=>exact (Kd.R_reads' Ad.out).2.1);(case side3=>exact cw (Kd.R_reads' Ag.out).2.2);(case side4=>exact (Kd.R_reads' Ag.out).2.1);rintro e w59 ⟨rfl,hb⟩;refine ⟨_,rfl,?_⟩;replace Ab:=aA.mk (Kd.R_below (ra Ab) hb);replace Ad:=aA.mk (Kd.R_below (ra Ad) hb);replace Ai:=aA.mk (Kd.R_below (ra Ai) hb);replace Ag:=aA.mk (Kd.R_below (ra Ag) hb);replace A1:=aA.mk (aQ (g:=A9) (o := .cells #[.int .i64 A8,.string Aa] 26 (0,0)) (dr A1) hb);replace A3:=aA.mk (aQ (g:=Af) (o := .cells #[.int .i64 Al,.string Ap] 26 (0,0)) (dr A3) hb);replace HB:=aA.mk (aE (tb HB) hb);(try clear hb);(try clear hb2);(try clear hk);(try clear hi);have hnb60:=Ao.out;have hnc60:=B3.out;have hcz61__:=lP A1;have hfz61__:=f_ A1;obtain ⟨Ao62,co62,eo62⟩:=Kd.R_slice Ai.out;subst eo62)|(go_at_call 48;(try simp only [aJ,aK]);(with_reducible refine (dF.calls k5 A8 Aa _ _ B4 Ay _ ?side1 ?side2 A56.out).mono ?_);(case side1=>exact cw (Kd.R_reads' Ai.out).2.2);(case side2=>exact (Kd.R_reads' Ai.out).2.1);rintro e w63 ⟨rfl,hb⟩;replace Ab:=aA.mk (Kd.R_below (ra Ab) hb);replace Ad:=aA.mk (Kd.R_below (ra Ad) hb);replace Ai:=aA.mk (Kd.R_below (ra Ai) hb);replace Ag:=aA.mk (Kd.R_below (ra Ag) hb);replace A1:=aA.mk (aQ (g:=A9) (o := .cells #[.int .i64 A8,.string Aa] 26 (0,0)) (dr A1) hb);replace A3:=aA.mk (aQ (g:=Af) (o := .cells #[.int .i64 Al,.string Ap] 26 (0,0)) (dr A3) hb);replace HB:=aA.mk (aE (tb HB) hb);(try clear hb);(try clear hb2);(try clear hk);(try clear hi)));go_roundg k5
                   case measure=>have:=HJ7.out;have:=HJ22.out;have:=HK3.out;have:=HK4.out;have:=HK5.out;omega
                   case rel=>exact ⟨(wrap64 (Aj + 1)),(by first|rfl|(simp;done)|(simp [*];done)),H',⟨by have:=HJ7.out;have:=HJ22.out;have:=HK3.out;have:=HK4.out;have:=HK5.out;omega⟩,⟨ra Ab⟩,⟨ra Ad⟩,⟨dr A1⟩,⟨dr A3⟩,⟨by exact tb HB⟩⟩
                  ·rw [if_neg c57] at H;have c57b0:(Ay == Bb)=false:=beq_eq_false_iff_ne.mpr c57;have c57b1:(Ay != Bb)=true:=bne_iff_ne.mpr c57;exact absurd ((Option.some.inj H).trans HT.out) (by decide)
                 ·replace c55:=Bool.eq_false_iff.mpr c55;subst c55
                  have H1:(some false)=some r:=by rw [if_neg (show ¬ (false=true) by decide)] at H;exact H
                  clear H;have H:=H1;clear H1;exact absurd ((Option.some.inj H).trans HT.out) (by decide)
          ·rw [if_neg c33] at H;have c33b0:decide (Aj < 6)=false:=decide_eq_false c33;clear c33;replace H:=ob H;obtain ⟨Bg,A640,H⟩:=H;replace H:((cL.f k3 A8 Aa ([]:List Int)).bind fun Be=>(some (Bg == Be)))=some r:=H;have A64:=aA.mk A640;clear A640;replace H:=ob H;obtain ⟨Be,A650,H⟩:=H;replace H:(some (Bg == Be))=some r:=H;have A65:=aA.mk A650;clear A650;obtain rfl:=os H
           try go_wp2
           have n0_:=aA.mk (Kd.R_drew Ab.out);have n1_:=aA.mk (Kd.R_drew Ad.out);have n2_:=aA.mk (bE A1.out);have n3_:=aA.mk (bE A3.out);have n4_:=aA.mk (bQ HB.out);clear Ab;clear Ad;clear A1;clear A3;clear HB;have Ab:=n0_;have Ad:=n1_;have A1:=n2_;have A3:=n3_;have HB:=n4_;clear n0_ n1_ n2_ n3_ n4_;refine eW (n:=6) (S:=fun w'=>w'.cell? ⟨A9,0,none⟩=some (.int .i64 A8)∧w'.cell? ⟨A9,1,none⟩=some (.string Aa)) (ds:=[]) (tf 0 6) (by kernel_rfl) rfl rfl ⟨(aG A1.out 0).trans rfl,(aG A1.out 1).trans rfl⟩ (fun hHeld=>?_);generalize wr.drew=w66 at Ab Ad A1 A3 HB hHeld ⊢;refine tv 0 130 (tf 1 5) hHeld ?_;refine tv 2 132 #[true,false,true,false,false,false] hHeld ?_;refine fZ (i:=1) (N:=some 131) (tf 3 3) rfl rfl (by kernel_rfl) (by decide) (fun K hK=>?_);refine fV Try.func48 (by kernel_rfl) rfl #[.agg #[.int .i64 A8,.string Aa],.slice none 0 0] (by rfl) rfl rfl ml ?_;refine (dF.calls k3 A8 Aa _ _ ([]:List Int) Bg _ ?side1 ?side2 A64.out).mono ?_
           (case side1=>exact Kd.C_nil _ _)
           (case side2=>exact Nat.le_refl _)
           rintro e w67 ⟨rfl,hb⟩;refine ⟨_,rfl,?_⟩;have n0_:=aA.mk (Kd.R_below (ra Ab) hb);have n1_:=aA.mk (Kd.R_below (ra Ad) hb);have n2_:=aA.mk (aQ (g:=A9) (o := .cells #[.int .i64 A8,.string Aa] 26 (0,0)) (dr A1) hb);have n3_:=aA.mk (aQ (g:=Af) (o := .cells #[.int .i64 Al,.string Ap] 26 (0,0)) (dr A3) hb);have n4_:=aA.mk (aE (tb HB) hb);clear Ab;clear Ad;clear A1;clear A3;clear HB;have Ab:=n0_;have Ad:=n1_;have A1:=n2_;have A3:=n3_;have HB:=n4_;clear n0_ n1_ n2_ n3_ n4_;(try clear hb);(try clear hb2);(try clear hk);(try clear hi);refine hK.out _ _ ⟨(aG A1.out 0).trans rfl,(aG A1.out 1).trans rfl⟩ (fun hHeld=>?_);clear hK K;refine dZ (a':=?_) ?_ ?_;rotate_left
           ·show Act.put _ (some 131) _=_
            simp only [Act.put,s1,s2,s3,aJ,aK];rfl
           refine fZ (i:=3) (N:=some 133) (tf 4 2) rfl rfl (by kernel_rfl) (by decide) (fun K hK=>?_);refine fV Try.func49 (by kernel_rfl) rfl #[.agg #[.int .i64 A8,.string Aa],.slice none 0 0] (by rfl) rfl rfl ml ?_;refine (cL.calls k3 A8 Aa _ _ ([]:List Int) Be _ ?side1 ?side2 A65.out).mono ?_
           (case side1=>exact Kd.C_nil _ _)
           (case side2=>exact Nat.le_refl _)
           rintro e w68 ⟨rfl,hb⟩;refine ⟨_,rfl,?_⟩;have n0_:=aA.mk (Kd.R_below (ra Ab) hb);have n1_:=aA.mk (Kd.R_below (ra Ad) hb);have n2_:=aA.mk (aQ (g:=A9) (o := .cells #[.int .i64 A8,.string Aa] 26 (0,0)) (dr A1) hb);have n3_:=aA.mk (aQ (g:=Af) (o := .cells #[.int .i64 Al,.string Ap] 26 (0,0)) (dr A3) hb);have n4_:=aA.mk (aE (tb HB) hb);clear Ab;clear Ad;clear A1;clear A3;clear HB;have Ab:=n0_;have Ad:=n1_;have A1:=n2_;have A3:=n3_;have HB:=n4_;clear n0_ n1_ n2_ n3_ n4_;(try clear hb);(try clear hb2);(try clear hk);(try clear hi);refine hK.out _ _ ⟨(aG A1.out 0).trans rfl,(aG A1.out 1).trans rfl⟩ (fun hHeld=>?_);clear hK K;refine dZ (a':=?_) ?_ ?_;rotate_left
           ·show Act.put _ (some 133) _=_
            simp only [Act.put,s1,s2,s3,aJ,aK];rfl
           refine pv 4 134 (tf 5 1) ?_;refine pv 5 2 (tf 6 0) ?_;refine gG (by kernel_rfl) ?_
           try go_wp2
           go_ret;exact ⟨er,tb HB⟩
end Go.Proofs.Ythipjoioicmcnaa.G
namespace Go.Proofs.Ythipjoioicmcnaa.Pure
open Go.RowKit Go.Proofs.YthipjoioicmcnaaW.PrintWords Go.Proofs.YthipjoioicmcnaaW.PrintLast Go.Proofs.YthipjoioicmcnaaW.PrintMore
theorem rounds {R:Type} (L:Nat→Nat→Option R) (n:Nat) (r:R) (step:∀ k i,i < n→L (k + 1) i=L k (i + 1)) (stop:∀ k,L (k + 1) n=some r):∀ k,n < k→L k 0=some r:=by
 have h:∀ d i k,i + d=n→d < k→L k i=some r:=by
  intro d
  induction d with
  | zero =>
   intro i k hi hk
   obtain ⟨k,rfl⟩:∃ m,k=m + 1:=⟨k - 1,by omega⟩
   obtain rfl:i=n:=by omega
   exact stop k
  | succ d ih =>
   intro i k hi hk
   obtain ⟨k,rfl⟩:∃ m,k=m + 1:=⟨k - 1,by omega⟩
   rw [step k i (by omega)]
   exact ih (i + 1) k (by omega) (by omega)
 exact fun k hk=>h n 0 k (by omega) hk
theorem uC {R:Type} (L:Nat→Nat→R) (n:Nat) (p:Nat→Bool) (S E:Nat→R) (step:∀ k i,i < n→(∀ j,j < i→p j=true)→p i=true→L (k + 1) i=L k (i + 1))
  (exit:∀ k i,i < n→(∀ j,j < i→p j=true)→p i=false→L (k + 1) i=E k) (stop:∀ k,(∀ j,j < n→p j=true)→L (k + 1) n=S k) :
  ∀ k,n < k→∃ j,k - n - 1≤j∧j < k∧L k 0=if (List.range n).all p then S j else E j:=by
 have h:∀ d i k,i + d=n→d < k→(∀ j,j < i→p j=true)→∃ j,k - d - 1≤j∧j < k∧L k i=if (List.range n).all p then S j else E j:=by
  intro d
  induction d with
  | zero =>
   intro i k hi hk hp
   obtain ⟨k,rfl⟩:∃ m,k=m + 1:=⟨k - 1,by omega⟩
   obtain rfl:i=n:=by omega
   refine ⟨k,by omega,by omega,?_⟩
   rw [stop k hp,if_pos (List.all_eq_true.2 fun x hx=>hp x (by simpa using hx))]
  | succ d ih =>
   intro i k hi hk hp
   obtain ⟨k,rfl⟩:∃ m,k=m + 1:=⟨k - 1,by omega⟩
   cases hpi:p i with
   | true =>
    obtain ⟨j,h1,h2,h3⟩:=ih (i + 1) k (by omega) (by omega) (fun j hj=>by
     rcases Nat.eq_or_lt_of_le (Nat.lt_succ_iff.1 hj) with e|e
     ·exact e ▸ hpi
     ·exact hp j e)
    exact ⟨j,by omega,by omega,(step k i (by omega) hp hpi).trans h3⟩
   | false =>
    refine ⟨k,by omega,by omega,?_⟩
    rw [exit k i (by omega) hp hpi,if_neg (fun ha=>by have:=List.all_eq_true.1 ha i (by simp;omega);rw [hpi] at this;cases this)]
 exact fun k hk=>h n 0 k (by omega) hk (fun j hj=>absurd hj (by omega))
theorem lB {R:Type} (L:Nat→Nat→Option R) (n:Nat) (p:Nat→Bool) (r bad:R) (step:∀ k i,i < n→(∀ j,j < i→p j=true)→p i=true→L (k + 1) i=L k (i + 1))
  (exit:∀ k i,i < n→(∀ j,j < i→p j=true)→p i=false→L (k + 1) i=some bad) (stop:∀ k,(∀ j,j < n→p j=true)→L (k + 1) n=some r) :
  ∀ k,n < k→L k 0=some (if (List.range n).all p then r else bad):=by
 intro k hk
 obtain ⟨j,_,_,h⟩:=uC L n p (fun _=>some r) (fun _=>some bad) step exit stop k hk
 rw [h]
 split <;> rfl
theorem iB {n:Int} (h0 : -9223372036854775808≤n) (h1:n≤9223372036854775807):wrap64 n=n:=by
 unfold wrap64
 omega
theorem eH (i:Nat) (h:i < 4611686018427387904):wrap64 ((i:Int) + 1)=((i + 1:Nat):Int):=by
 rw [iB (by omega) (by omega)]
 omega
theorem pI {a:Int} (h0:0≤a) (h1:a≤18446744073709551615):IntKind.u64.wrap a=a:=by
 have h:IntKind.u64.wrap a=a % 18446744073709551616:=by
  simp [IntKind.wrap,IntKind.bits,IntKind.signed]
 rw [h]
 omega
theorem dP (xs:List Int) (i:Nat):rd xs (i:Int)=xs.getD i 0:=by unfold rd;simp
theorem dM {α:Type} (xs:List α) (i:Nat) (d:α) (h:i < xs.length):xs.getD i d=xs[i]:=by
 rw [List.getD_eq_getElem?_getD,List.getElem?_eq_getElem h]
 rfl
theorem iR {α:Type} (xs:List α) (i:Nat) (d:α) (h:i < xs.length):xs.take (i + 1)=xs.take i ++ [xs.getD i d]:=by
 rw [List.take_succ_eq_append_getElem h,dM xs i d h]
theorem xD (s:ByteArray) (i:Nat) (h:i < s.size):bt s (i:Int)=(s[i].toNat:Int):=by
 unfold bt
 simp [h]
theorem mH (s:ByteArray):s.toList=s.data.toList:=ByteArray.toList_eq s
end Go.Proofs.Ythipjoioicmcnaa.Pure
namespace Go.Proofs.Ythipjoioicmcnaa.Pure
open Go.RowKit Go.Proofs.Ythipjoioicmcnaa.G Go.Proofs.YthipjoioicmcnaaW.PrintWords Go.Proofs.YthipjoioicmcnaaW.PrintLast Go.Proofs.YthipjoioicmcnaaW.PrintMore
theorem nL {R:Type} (L:Nat→Nat→Option R) (n:Nat) (p:Nat→Bool) (r bad:R) (step:∀ k i,i < n→p i=true→L (k + 1) i=L k (i + 1)) (exit:∀ k i,i < n→p i=false→L (k + 1) i=some bad)
  (stop:∀ k,L (k + 1) n=some r):∀ k,n < k→L k 0=some (if (List.range n).all p then r else bad) :=
 lB L n p r bad (fun k i hi _ hp=>step k i hi hp) (fun k i hi _ hp=>exit k i hi hp) (fun k _=>stop k)
def sgn (b:Bool):Int:=if b then 49 else 48
def ones (l:List Bool):ByteArray:=⟨(l.map fun b=>if b then (49:UInt8) else 48).toArray⟩
theorem iI (l:List Bool):(ones l).size=l.length:=by
 show (l.map fun b=>if b then (49:UInt8) else 48).toArray.size=_
 simp
theorem pE (l:List Bool) (i:Nat) (h:i < l.length):bt (ones l) (i:Int)=sgn (l.getD i false):=by
 have hs:i < (ones l).size:=by rw [iI];exact h
 rw [xD _ i hs,dM l i false h]
 have e:(ones l)[i]=if l[i] then (49:UInt8) else 48:=by
  have h1:(ones l).data.toList[i]? = some (ones l)[i]:=by
   rw [List.getElem?_eq_getElem (by simpa using hs)]
   rfl
  have h2:(ones l).data.toList[i]? = some (if l[i] then (49:UInt8) else 48):=by simp [ones,h]
  exact Option.some.inj (h1.symm.trans h2)
 rw [e]
 unfold sgn
 cases l[i] <;> rfl
theorem qI {a b:ByteArray} (h:a.data.toList=b.data.toList):a=b:=by
 cases a;cases b
 simp only [ByteArray.mk.injEq]
 exact Array.toList_inj.1 h
theorem toList_inj {a b:ByteArray}:a.toList=b.toList↔a=b:=by
 rw [mH,mH]
 exact ⟨qI,fun h=>h ▸ rfl⟩
theorem nJ (l:List Bool):strOfNums (l.map sgn)=ones l:=by
 unfold strOfNums ones
 congr 2
 rw [List.map_map]
 refine List.map_congr_left fun b _=>?_
 cases b <;> rfl
def tok (N:Int) (s:ByteArray):Bool:=decide (0≤N∧N≤12∧(s.size:Int)=2 ^ N.toNat) && (List.range s.size).all fun (i:Nat)=>bt s (i:Int) == 48 || bt s (i:Int) == 49
theorem qP {N:Int} {s:ByteArray} (h:tok N s=true):∃ (n:Nat) (l:List Bool),N=(n:Int)∧n≤12∧l.length=2 ^ n∧s=ones l:=by
  unfold tok at h
  simp only [Bool.and_eq_true,decide_eq_true_eq] at h
  obtain ⟨⟨h0,h1,h2⟩,h3⟩:=h
  obtain ⟨n,rfl⟩:=Int.eq_ofNat_of_zero_le h0
  have h2':s.size=2 ^ n:=by
    rw [Int.toNat_natCast] at h2
    exact_mod_cast h2
  refine ⟨n,(List.range s.size).map fun (i:Nat)=>decide (bt s (i:Int)=49),rfl,by omega,by simp [h2'],?_⟩
  apply qI
  apply List.ext_getElem?
  intro i
  rcases Nat.lt_or_ge i s.size with hi|hi
  · have hb:=List.all_eq_true.1 h3 i (by simpa using hi)
    have e:s.data.toList[i]? = some s[i]:=by
      rw [List.getElem?_eq_getElem (by simpa using hi)]
      rfl
    rw [e]
    have hv:=xD s i hi
    simp only [ones,List.map_map,List.getElem?_map,List.getElem?_range hi,Option.map_some,Function.comp]
    congr 1
    simp only [Bool.or_eq_true,beq_iff_eq] at hb
    have hd : ∀ c : UInt8, ((c.toNat : Int) = 48 → c = 48) ∧ ((c.toNat : Int) = 49 → c = 49) := fun c => ⟨fun h => UInt8.toNat_inj.1 (by have : c.toNat = 48 := by omega
                                                                                                                                         rw [this]; rfl), fun h => UInt8.toNat_inj.1 (by have : c.toNat = 49 := by omega
                                                                                                                                                                                         rw [this];rfl)⟩
    rcases hb with hb|hb
    · have hc:=(hd s[i]).1 (hv ▸ hb)
      simp [hb,hc]
    · have hc:=(hd s[i]).2 (hv ▸ hb)
      simp [hb,hc]
  · rw [List.getElem?_eq_none (by simpa using hi),List.getElem?_eq_none (by simp [ones];exact hi)]
theorem vU {n:Nat} {l:List Bool} (hn:n≤12) (hl:l.length=2 ^ n):tok (n:Int) (ones l)=true:=by
 unfold tok
 rw [Bool.and_eq_true]
 refine ⟨decide_eq_true ⟨by omega,by omega,?_⟩,List.all_eq_true.2 fun i hi=>?_⟩
 ·rw [iI,hl,Int.toNat_natCast]
  norm_cast
 ·have hi':i < l.length:=by rw [iI] at hi;simpa using hi
  rw [pE l i hi']
  unfold sgn
  cases l.getD i false <;> rfl
theorem aCY {n:Nat} (hn:n≤12):2 ^ n≤4096:=Nat.pow_le_pow_right (by decide) hn
theorem tO {n:Nat} (hn:n≤61):(2:Int) ^ n≤2305843009213693952:=by
 have h:2 ^ n≤2 ^ 61:=Nat.pow_le_pow_right (by decide) hn
 have h2:((2 ^ n:Nat):Int)≤((2 ^ 61:Nat):Int):=by exact_mod_cast h
 have h3:((2 ^ n:Nat):Int)=(2:Int) ^ n:=by norm_cast
 omega
theorem nR (n:Nat):(1:Int)≤2 ^ n:=by
 have h:1≤2 ^ n:=Nat.one_le_two_pow
 have h2:((1:Nat):Int)≤((2 ^ n:Nat):Int):=by exact_mod_cast h
 have h3:((2 ^ n:Nat):Int)=(2:Int) ^ n:=by norm_cast
 omega
theorem kO (n:Nat) (hn:n≤60):∀ k,n < k→aH.f k (n:Int)=some ((2:Int) ^ n):=by
 intro k hk
 unfold aH.f
 refine rounds (fun k i=>aH.l0 k (n:Int) ((2:Int) ^ i) (i:Int)) n _ ?_ ?_ k hk
 ·intro k i hi
  simp only [aH.l0]
  have h1:=tO (n:=i + 1) (by omega)
  have h2:=nR i
  rw [if_pos (by omega),eH i (by omega),show (2:Int) * 2 ^ i=2 ^ (i + 1) from by rw [Int.pow_succ];omega,iB (by have:=nR (i + 1);omega) (by omega)]
 ·intro k
  simp only [aH.l0]
  rw [if_neg (by omega)]
theorem mK (N:Int) (s:ByteArray) (hs:s.size≤1099511627776):∀ k,s.size + 20 < k→cH.f k N s=some (tok N s):=by
 intro k hk
 obtain ⟨k,rfl⟩:∃ m,k=m + 1:=⟨k - 1,by omega⟩
 unfold cH.f bD.f
 by_cases h0:N ≥ 0
 ·rw [if_pos h0]
  by_cases h1:N≤12
  ·obtain ⟨n,rfl⟩:=Int.eq_ofNat_of_zero_le h0
   simp only [h1,decide_true,Option.bind_some,if_true]
   rw [kO n (by omega) (k + 1) (by omega)]
   simp only [Option.bind_some,cH.j0]
   by_cases h2:(s.size:Int)=2 ^ n
   ·rw [if_neg (by simp [h2])]
    have h:=nL (fun k i=>cH.l0 k (i:Int) (n:Int) s) s.size (fun i=>bt s i == 48 || bt s i == 49) true false ?_ ?_ ?_ k (by omega)
    ·refine h.trans ?_
     unfold tok
     rw [decide_eq_true (⟨h0,h1,by rw [Int.toNat_natCast];exact h2⟩:0≤(n:Int)∧(n:Int)≤12∧(s.size:Int)=2 ^ (n:Int).toNat),Bool.true_and]
     congr 1
     split <;> simp_all
    ·intro k i hi hp
     simp only [cH.l0]
     simp only [Bool.or_eq_true,beq_iff_eq] at hp
     rw [if_pos (by omega),if_pos (by omega),eH i (by omega)]
     rcases hp with hp|hp
     ·rw [if_pos hp]
     ·rw [if_neg (by omega),if_pos hp]
    ·intro k i hi hp
     simp only [cH.l0]
     simp only [Bool.or_eq_false_iff,beq_eq_false_iff_ne] at hp
     rw [if_pos (by omega),if_pos (by omega),if_neg hp.1,if_neg hp.2]
    ·intro k
     simp only [cH.l0]
     rw [if_neg (by omega)]
   ·rw [if_pos (by simpa using h2)]
    unfold tok
    rw [decide_eq_false (by rintro ⟨_,_,h⟩;rw [Int.toNat_natCast] at h;exact h2 h),Bool.false_and]
  ·simp only [h1,decide_false,Option.bind_some]
   simp only [Bool.false_eq_true,if_false,cH.j0,if_true]
   unfold tok
   rw [decide_eq_false (by omega),Bool.false_and]
 ·rw [if_neg h0]
  simp only [Option.bind_some,Bool.false_eq_true,if_false,cH.j0,if_true]
  unfold tok
  rw [decide_eq_false (by omega),Bool.false_and]
theorem pP (n:Nat) (hn:n≤60):shl .i64 1 (n:Int)=(2:Int) ^ n:=by
 unfold shl
 rw [Int.toNat_natCast,show min n IntKind.i64.bits=n from by simp [IntKind.bits];omega,Int.one_mul,IntKind.wrap_i64]
 have h1:=tO (n:=n) (by omega)
 have h2:=nR n
 omega
theorem kD (N:Int) (s:ByteArray) (hs:s.size≤1099511627776):∀ k,s.size + 20 < k→bZ.f k N s=some (tok N s):=by
 intro k hk
 obtain ⟨k,rfl⟩:∃ m,k=m + 1:=⟨k - 1,by omega⟩
 unfold bZ.f aY.f
 by_cases h0:N ≥ 0
 ·rw [if_pos h0]
  by_cases h1:N≤12
  ·obtain ⟨n,rfl⟩:=Int.eq_ofNat_of_zero_le h0
   simp only [h1,decide_true,Option.bind_some,if_true]
   rw [pI (by omega) (by omega),if_pos (by omega),pP n (by omega)]
   simp only [bZ.j0]
   by_cases h2:(s.size:Int)=2 ^ n
   ·rw [if_neg (by simp [h2])]
    have h:=nL (fun k i=>bZ.l0 k (s.size:Int) (i:Int) (n:Int) s) s.size (fun i=>bt s i == 48 || bt s i == 49) true false ?_ ?_ ?_ k (by omega)
    ·refine h.trans ?_
     unfold tok
     rw [decide_eq_true (⟨h0,h1,by rw [Int.toNat_natCast];exact h2⟩:0≤(n:Int)∧(n:Int)≤12∧(s.size:Int)=2 ^ (n:Int).toNat),Bool.true_and]
     congr 1
     split <;> simp_all
    ·intro k i hi hp
     simp only [bZ.l0]
     simp only [Bool.or_eq_true,beq_iff_eq] at hp
     rw [if_pos (by omega),if_pos (by omega),if_pos (by omega),eH i (by omega)]
     rcases hp with hp|hp
     ·rw [if_pos hp]
     ·rw [if_neg (by omega),if_pos hp]
    ·intro k i hi hp
     simp only [bZ.l0]
     simp only [Bool.or_eq_false_iff,beq_eq_false_iff_ne] at hp
     rw [if_pos (by omega),if_pos (by omega),if_pos (by omega),if_neg hp.1,if_neg hp.2]
    ·intro k
     simp only [bZ.l0]
     rw [if_neg (by omega)]
   ·rw [if_pos (by simpa using h2)]
    unfold tok
    rw [decide_eq_false (by rintro ⟨_,_,h⟩;rw [Int.toNat_natCast] at h;exact h2 h),Bool.false_and]
  ·simp only [h1,decide_false,Option.bind_some]
   simp only [Bool.false_eq_true,if_false,bZ.j0,if_true]
   unfold tok
   rw [decide_eq_false (by omega),Bool.false_and]
 ·rw [if_neg h0]
  simp only [Option.bind_some,Bool.false_eq_true,if_false,bZ.j0,if_true]
  unfold tok
  rw [decide_eq_false (by omega),Bool.false_and]
theorem iK (n:Int) (h₀:0≤n) (h₁:n < 2 ^ 62):IntKind.i64.wrap n=n:=by rw [IntKind.wrap_i64];omega
theorem yL (a b:Nat) (ha:a < 2 ^ 62) (hb:b < 2 ^ 62):Go.bits .and .i64 (a:Int) (b:Int)=((a &&& b:Nat):Int):=(bits_nat .i64 62 (by decide) iK a b ha hb).1
theorem pV (a b:Nat) (ha:a < 2 ^ 62) (hb:b < 2 ^ 62):Go.bits .or .i64 (a:Int) (b:Int)=((a ||| b:Nat):Int):=(bits_nat .i64 62 (by decide) iK a b ha hb).2
theorem vE (j:Nat):(2:Int) ^ j=((2 ^ j:Nat):Int):=by norm_cast
end Go.Proofs.Ythipjoioicmcnaa.Pure
namespace Go.Proofs.Ythipjoioicmcnaa.Pure
open Go.RowKit Go.Proofs.YthipjoioicmcnaaW.PrintWords Go.Proofs.YthipjoioicmcnaaW.PrintLast Go.Proofs.YthipjoioicmcnaaW.PrintMore
theorem bA {α:Type} (r:α):Ev (fun _=>some r) r:=⟨0,fun _ _=>rfl⟩
theorem lH {α:Type} {g:Nat→Option α} {r:α} (n:Nat) (h:∀ k,n < k→g k=some r):Ev g r:=⟨n + 1,fun k hk=>h k (by omega)⟩
theorem iF {α:Type} {g f:Nat→Option α} {r:α} (h:∀ k,g (k + 1)=f k) (e:Ev f r):Ev g r:=by
 obtain ⟨K,e⟩:=e
 refine ⟨K + 1,fun k hk=>?_⟩
 obtain ⟨m,rfl⟩:∃ m,k=m + 1:=⟨k - 1,by omega⟩
 rw [h m]
 exact e m (by omega)
theorem bB {α:Type} {g:Nat→Option α} {r:α} (e:Ev (fun k=>g (k + 1)) r):Ev g r:=iF (fun _=>rfl) e
theorem tB {α:Type} {g f:Nat→Option α} {r:α} (h:∀ k,g k=f k) (e:Ev f r):Ev g r:=by
 obtain ⟨K,e⟩:=e
 exact ⟨K,fun k hk=>(h k).trans (e k hk)⟩
theorem bI {α β:Type} {g:Nat→Option α} {f:Nat→α→Option β} {a:α} {r:β} (h:Ev g a) (e:Ev (fun n=>f n a) r):Ev (fun n=>(g n).bind (f n)) r:=by
 obtain ⟨K,h⟩:=h
 obtain ⟨M,e⟩:=e
 refine ⟨K + M,fun n hn=>?_⟩
 show (g n).bind (f n)=some r
 rw [h n (by omega)]
 exact e n (by omega)
theorem tZ {α:Type} {g:Nat→Option α} {r:α} (h:Ev g r):∃ k,g k=some r:=by
 obtain ⟨K,h⟩:=h
 exact ⟨K,h K (Nat.le_refl _)⟩
theorem nT {α:Type} {g:Nat→Option α} {a b:α} (h:Ev g a) (e:Ev g b):a=b:=by
 obtain ⟨K,h⟩:=h
 obtain ⟨M,e⟩:=e
 exact Option.some.inj ((h (K + M) (by omega)).symm.trans (e (K + M) (by omega)))
theorem jV {α:Type} (L:Nat→Nat→Option α) (n:Nat) (r:α) (step:∀ i,i < n→Ev (fun k=>L k (i + 1)) r→Ev (fun k=>L k i) r) (stop:Ev (fun k=>L k n) r):∀ i,i≤n→Ev (fun k=>L k i) r:=by
 have h:∀ d i,i + d=n→Ev (fun k=>L k i) r:=by
  intro d
  induction d with
  | zero =>
   intro i hi
   obtain rfl:i=n:=by omega
   exact stop
  | succ d ih=>intro i hi;exact step i (by omega) (ih (i + 1) (by omega))
 exact fun i hi=>h (n - i) i (by omega)
end Go.Proofs.Ythipjoioicmcnaa.Pure
namespace Go.Proofs.Ythipjoioicmcnaa.Pure
open Go.RowKit Go.Proofs.Ythipjoioicmcnaa.G Go.Proofs.YthipjoioicmcnaaW.PrintWords Go.Proofs.YthipjoioicmcnaaW.PrintLast Go.Proofs.YthipjoioicmcnaaW.PrintMore
theorem mO (z j:Nat) (hj:j≤60):shr .i64 (z:Int) (j:Int)=((z / 2 ^ j:Nat):Int):=by
 unfold shr
 rw [Int.toNat_natCast,show min j IntKind.i64.bits=j from by simp [IntKind.bits];omega]
 norm_cast
theorem pH (z j:Nat) (hj:j≤60) (h:z * 2 ^ j < 4611686018427387904):shl .i64 (z:Int) (j:Int)=((z * 2 ^ j:Nat):Int):=by
 unfold shl
 rw [Int.toNat_natCast,show min j IntKind.i64.bits=j from by simp [IntKind.bits];omega,vE,← Int.natCast_mul,iK _ (by omega) (by omega)]
theorem gD (w:Nat) (h8:w≤8):1≤(2:Int) ^ w∧(2:Int) ^ w≤256:=by
 have:w=0∨w=1∨w=2∨w=3∨w=4∨w=5∨w=6∨w=7∨w=8:=by omega
 rcases this with rfl|rfl|rfl|rfl|rfl|rfl|rfl|rfl|rfl <;> decide
theorem sW (w:Nat) (h8:w≤8):IntKind.u64.wrap (w:Int)=(w:Int):=pI (by omega) (by omega)
theorem lW (w:Nat) (h8:w≤8):wrap64 (shl .i64 1 (w:Int) - 1)=(2:Int) ^ w - 1:=by
 rw [pP w (by omega)]
 have:=gD w h8
 unfold wrap64
 omega
theorem aDA (w:Nat) (h8:w≤8) (x:Int):Go.bits .and .i64 x ((2:Int) ^ w - 1)=x % (2:Int) ^ w:=by
 have hP:((2:Int) ^ w - 1)=((2 ^ w - 1:Nat):Int):=by
  have:1≤2 ^ w:=Nat.one_le_two_pow
  push_cast [this]
  rfl
 have hlt:2 ^ w - 1 < 2 ^ 64:=by
  have h1:2 ^ w≤2 ^ 8:=Nat.pow_le_pow_right (by decide) h8
  have h2:(2:Nat) ^ 8 < 2 ^ 64:=by decide
  omega
 have hx:((BitVec.ofInt 64 x).toNat &&& (2 ^ w - 1))=(x % (2:Int) ^ w).toNat:=by
  rw [Nat.and_two_pow_sub_one_eq_mod,BitVec.toNat_ofInt]
  have hd:((2 ^ w:Nat):Int) ∣ ((2 ^ 64:Nat):Int):=by exact_mod_cast Nat.pow_dvd_pow 2 (by omega)
  have h0:0≤x % ((2 ^ 64:Nat):Int):=Int.emod_nonneg _ (by decide)
  have e:(((x % ((2 ^ 64:Nat):Int)).toNat % 2 ^ w:Nat):Int)=x % (2:Int) ^ w:=by
   rw [Int.natCast_emod,Int.toNat_of_nonneg h0,Int.emod_emod_of_dvd _ hd]
   push_cast
   rfl
  rw [← e,Int.toNat_natCast]
 have hn:0≤x % (2:Int) ^ w:=Int.emod_nonneg _ (by have:=gD w h8;omega)
 have hl:x % (2:Int) ^ w < (2:Int) ^ w:=Int.emod_lt_of_pos _ (by have:=gD w h8;omega)
 have hb:(BitVec.ofInt 64 ((2 ^ w - 1:Nat):Int)).toNat=2 ^ w - 1:=by
  rw [BitVec.ofInt_natCast,BitVec.toNat_ofNat,Nat.mod_eq_of_lt hlt]
 rw [hP]
 unfold Go.bits
 show IntKind.i64.wrap (((BitVec.ofInt 64 x) &&& (BitVec.ofInt 64 ((2 ^ w - 1:Nat):Int))).toNat:Int)=_
 rw [BitVec.toNat_and,hb,hx,Int.toNat_of_nonneg hn]
 exact iK _ hn (by have:=gD w h8;omega)
theorem nD (w:Nat) (h8:w≤8) (x:Int):dE.f (w:Int) x=some (x % (2:Int) ^ w):=by
 unfold dE.f
 rw [sW w h8,if_pos (by omega),lW w h8,aDA w h8]
theorem gL (w:Nat) (h8:w≤8):Ev (fun k=>aH.f k (w:Int)) ((2:Int) ^ w):=lH w (fun k hk=>kO w (by omega) k hk)
def gQ (w:Nat) (a:Int):Bool:=decide (0≤a∧a < (2:Int) ^ w)
theorem kV (w:Nat) (h1:1≤w) (h8:w≤8) (a:Int):cR.f (w:Int) a=some (gQ w a):=by
 have hp:=gD w h8
 unfold cR.f bU.f aY.f
 rw [if_pos (show (w:Int) ≥ 1 by omega)]
 simp only [Option.bind_some]
 rw [show decide ((w:Int)≤8)=true from decide_eq_true (by omega),if_pos rfl,sW w h8,if_pos (by omega),lW w h8]
 unfold gQ
 by_cases h:a ≥ 0
 ·rw [if_pos h]
  simp only [Option.bind_some]
  congr 1
  rw [decide_eq_decide]
  omega
 ·rw [if_neg h]
  simp only [Option.bind_some]
  congr 1
  exact (decide_eq_false (by omega)).symm
theorem oF (x a b:Int):bD.f x a b=some (decide (a≤x∧x≤b)):=by
 unfold bD.f
 by_cases h:x ≥ a
 ·rw [if_pos h]
  congr 1
  rw [decide_eq_decide]
  omega
 ·rw [if_neg h]
  congr 1
  exact (decide_eq_false (by omega)).symm
theorem eO (x a b:Int):aY.f x a b=some (decide (a≤x∧x≤b)):=by
 unfold aY.f
 by_cases h:x ≥ a
 ·rw [if_pos h]
  congr 1
  rw [decide_eq_decide]
  omega
 ·rw [if_neg h]
  congr 1
  exact (decide_eq_false (by omega)).symm
theorem kS (w:Nat) (h1:1≤w) (h8:w≤8) (a:Int):Ev (fun k=>bV.f k (w:Int) a) (gQ w a):=by
 have hp:=gD w h8
 refine tB (f:=fun k=>(aH.f k (w:Int)).bind fun t102=>((bD.f a 0 (wrap64 (t102 - 1))).bind fun t103=>(some t103))) (fun k=>?_) ?_
 ·unfold bV.f
  rw [oF,show decide ((1:Int)≤(w:Int)∧(w:Int)≤8)=true from decide_eq_true (by omega)]
  simp only [Option.bind_some]
  rw [if_pos trivial]
 ·refine bI (gL w h8) ?_
  rw [oF]
  simp only [Option.bind_some]
  rw [show decide (0≤a∧a≤wrap64 ((2:Int) ^ w - 1))=gQ w a from by
   unfold gQ wrap64
   rw [decide_eq_decide]
   omega]
  exact bA _
theorem rU (w:Nat) (h1:1≤w) (h8:w≤8) (a b:Int):cT.f (w:Int) a b=some (gQ w a && gQ w b):=by
 unfold cT.f
 rw [kV w h1 h8,kV w h1 h8]
 simp only [Option.bind_some]
 cases gQ w a <;> simp
theorem vD (w:Nat) (h1:1≤w) (h8:w≤8) (a b:Int):Ev (fun k=>bY.f k (w:Int) a b) (gQ w a && gQ w b):=by
 refine bI (f:=fun k t101=>if t101=true then ((bV.f k (w:Int) b).bind fun t102=>(some t102)) else (some false)) (kS w h1 h8 a) ?_
 cases gQ w a with
 | false=>exact bA _
 | true =>
  simp only [if_true,Bool.true_and]
  exact bI (f:=fun _ t=>some t) (kS w h1 h8 b) (bA _)
def kF (x:Option Int) (y:Nat→Option Int):Prop:=∃ v,x=some v∧Ev y v
theorem jY (w:Nat) (h1:1≤w) (h8:w≤8) (a b:Int) (I:Option Int) (S:Nat→Option Int) (z:Int) (h:0≤a→a < (2:Int) ^ w→0≤b→b < (2:Int) ^ w→kF I S) :
  kF ((cT.f (w:Int) a b).bind fun t=>if t=true then I else some z) (fun k=>(bY.f k (w:Int) a b).bind fun t=>if t=true then S k else some z):=by
 by_cases hok:(gQ w a && gQ w b)=true
 ·have hh:=hok
  simp only [Bool.and_eq_true,gQ,decide_eq_true_eq] at hh
  obtain ⟨v,e1,e2⟩:=h hh.1.1 hh.1.2 hh.2.1 hh.2.2
  refine ⟨v,?_,?_⟩
  ·rw [rU w h1 h8,hok]
   exact e1
  ·refine bI (f:=fun k t=>if t=true then S k else some z) (vD w h1 h8 a b) ?_
   rw [hok]
   exact e2
 ·have h':(gQ w a && gQ w b)=false:=by simpa using hok
  refine ⟨z,?_,?_⟩
  ·rw [rU w h1 h8,h']
   rfl
  ·refine bI (f:=fun k t=>if t=true then S k else some z) (vD w h1 h8 a b) ?_
   rw [h']
   exact bA _
theorem sV (w:Nat) (h1:1≤w) (h8:w≤8) (a:Int) (I:Option Int) (S:Nat→Option Int) (z:Int) (h:0≤a→a < (2:Int) ^ w→kF I S) :
  kF ((cR.f (w:Int) a).bind fun t=>if t=true then I else some z) (fun k=>(bV.f k (w:Int) a).bind fun t=>if t=true then S k else some z):=by
 by_cases hok:gQ w a=true
 ·have hh:=hok
  simp only [gQ,decide_eq_true_eq] at hh
  obtain ⟨v,e1,e2⟩:=h hh.1 hh.2
  refine ⟨v,?_,?_⟩
  ·rw [kV w h1 h8,hok]
   exact e1
  ·refine bI (f:=fun k t=>if t=true then S k else some z) (kS w h1 h8 a) ?_
   rw [hok]
   exact e2
 ·have h':gQ w a=false:=by simpa using hok
  refine ⟨z,?_,?_⟩
  ·rw [kV w h1 h8,h']
   rfl
  ·refine bI (f:=fun k t=>if t=true then S k else some z) (kS w h1 h8 a) ?_
   rw [h']
   exact bA _
theorem aEA (w:Nat) (h1:1≤w) (h8:w≤8) (a b:Int):kF (jH.f (w:Int) a b) (fun k=>jC.f k (w:Int) a b):=by
 have hp:=gD w h8
 refine jY w h1 h8 a b _ (fun k=>(aH.f k (w:Int)).bind fun t102=>(if t102=0 then (none) else (some (Int.tmod (wrap64 (a + b)) t102)))) 0 (fun a0 a1 b0 b1=>⟨(a + b) % (2:Int) ^ w,?_,?_⟩)
 ·rw [nD w h8,show wrap64 (a + b)=a + b from by unfold wrap64;omega]
  rfl
 ·refine bI (f:=fun _ t102=>if t102=0 then (none) else (some (Int.tmod (wrap64 (a + b)) t102))) (gL w h8) ?_
  rw [if_neg (by omega),show wrap64 (a + b)=a + b from by unfold wrap64;omega,Int.tmod_eq_emod_of_nonneg (by omega)]
  exact bA _
theorem aDL (w:Nat) (h1:1≤w) (h8:w≤8) (a b:Int):kF (jN.f (w:Int) a b) (fun k=>jB.f k (w:Int) a b):=by
 have hp:=gD w h8
 refine jY w h1 h8 a b _ (fun k=>(aH.f k (w:Int)).bind fun t102=>((aH.f k (w:Int)).bind fun t103=>(if t103=0 then (none) else (some (Int.tmod (wrap64 ((wrap64 (a + t102)) - b)) t103))))) 0 (fun a0 a1 b0 b1=>⟨(a - b) % (2:Int) ^ w,?_,?_⟩)
 ·rw [nD w h8,show wrap64 (a - b)=a - b from by unfold wrap64;omega]
  rfl
 ·refine bI (f:=fun k t102=>(aH.f k (w:Int)).bind fun t103=>(if t103=0 then (none) else (some (Int.tmod (wrap64 ((wrap64 (a + t102)) - b)) t103)))) (gL w h8) ?_
  refine bI (f:=fun _ t103=>if t103=0 then (none) else (some (Int.tmod (wrap64 ((wrap64 (a + (2:Int) ^ w)) - b)) t103))) (gL w h8) ?_
  rw [if_neg (by omega),show wrap64 (wrap64 (a + (2:Int) ^ w) - b)=(a - b) + (2:Int) ^ w from by unfold wrap64;omega,Int.tmod_eq_emod_of_nonneg (by omega),Int.add_emod_right]
  exact bA _
theorem aED (w:Nat) (h1:1≤w) (h8:w≤8) (a b:Int):kF (jP.f (w:Int) a b) (fun k=>jF.f k (w:Int) a b):=by
 have hp:=gD w h8
 refine jY w h1 h8 a b _ (fun k=>(aH.f k (w:Int)).bind fun t102=>(if t102=0 then (none) else (some (Int.tmod (wrap64 (a * b)) t102)))) 0 (fun a0 a1 b0 b1=>⟨(a * b) % (2:Int) ^ w,?_,?_⟩)
 ·have hm:0≤a * b:=Int.mul_nonneg a0 b0
  have hM:a * b≤256 * 256:=Int.mul_le_mul (by omega) (by omega) b0 (by omega)
  rw [nD w h8,show wrap64 (a * b)=a * b from by unfold wrap64;omega]
  rfl
 ·have hm:0≤a * b:=Int.mul_nonneg a0 b0
  have hM:a * b≤256 * 256:=Int.mul_le_mul (by omega) (by omega) b0 (by omega)
  refine bI (f:=fun _ t102=>if t102=0 then (none) else (some (Int.tmod (wrap64 (a * b)) t102))) (gL w h8) ?_
  rw [if_neg (by omega),show wrap64 (a * b)=a * b from by unfold wrap64;omega,Int.tmod_eq_emod_of_nonneg hm]
  exact bA _
theorem aDZ (w:Nat) (h1:1≤w) (h8:w≤8) (a b:Int):kF (jQ.f (w:Int) a b) (fun k=>jK.f k (w:Int) a b):=by
 have hp:=gD w h8
 refine jY w h1 h8 a b _ (fun k=>if b=0 then ((aH.f k (w:Int)).bind fun t102=>(some (wrap64 (t102 - 1)))) else (some (wrap64 (Int.tdiv a b)))) 0 (fun a0 a1 b0 b1=>?_)
 by_cases hb:b=0
 ·rw [if_pos hb]
  simp only [if_pos hb]
  rw [sW w h8,if_pos (by omega),lW w h8]
  refine ⟨_,rfl,bI (f:=fun _ t102=>some (wrap64 (t102 - 1))) (gL w h8) ?_⟩
  rw [show wrap64 ((2:Int) ^ w - 1)=(2:Int) ^ w - 1 from by unfold wrap64;omega]
  exact bA _
 ·rw [if_neg hb]
  simp only [if_neg hb]
  exact ⟨_,rfl,bA _⟩
theorem aDH (w:Nat) (h1:1≤w) (h8:w≤8) (a b:Int):kF (jL.f (w:Int) a b) (fun k=>jJ.f k (w:Int) a b):=by
 refine jY w h1 h8 a b _ (fun k=>if b=0 then some a else (some (Int.tmod a b))) 0 (fun a0 a1 b0 b1=>?_)
 by_cases hb:b=0
 ·rw [if_pos hb]
  try simp only [if_pos hb]
  exact ⟨_,rfl,bA _⟩
 ·rw [if_neg hb]
  try simp only [if_neg hb]
  exact ⟨_,rfl,bA _⟩
theorem aAN (w:Nat) (h1:1≤w) (h8:w≤8) (a:Int):kF (gP.f (w:Int) a) (fun k=>iJ.f k (w:Int) a):=by
 have hp:=gD w h8
 refine sV w h1 h8 a _ (fun k=>(aH.f k (w:Int)).bind fun t102=>(some (wrap64 ((wrap64 (t102 - 1)) - a)))) 0 (fun a0 a1=>?_)
 rw [sW w h8,if_pos (by omega),lW w h8]
 refine ⟨_,rfl,bI (f:=fun _ t102=>some (wrap64 ((wrap64 (t102 - 1)) - a))) (gL w h8) ?_⟩
 rw [show wrap64 ((2:Int) ^ w - 1)=(2:Int) ^ w - 1 from by unfold wrap64;omega]
 exact bA _
theorem aDK (w:Nat) (h1:1≤w) (h8:w≤8) (a b:Int):kF (jO.f (w:Int) a b) (fun k=>jA.f k (w:Int) a b):=by
 have hp:=gD w h8
 refine jY w h1 h8 a b _ (fun k=>if b ≥ (w:Int) then some 0 else ((aH.f k b).bind fun t102=>(if t102=0 then (none) else (some (wrap64 (Int.tdiv a t102)))))) 0 (fun a0 a1 b0 b1=>?_)
 by_cases hb:b ≥ (w:Int)
 ·rw [if_pos hb]
  simp only [if_pos hb]
  exact ⟨_,rfl,bA _⟩
 ·rw [if_neg hb]
  simp only [if_neg hb]
  obtain ⟨j,rfl⟩:=Int.eq_ofNat_of_zero_le b0
  obtain ⟨x,rfl⟩:=Int.eq_ofNat_of_zero_le a0
  have hj:j≤8:=by omega
  have hq:=gD j hj
  rw [sW j hj,if_pos (by omega),mO x j (by omega)]
  refine ⟨_,rfl,bI (f:=fun _ t102=>if t102=0 then (none) else (some (wrap64 (Int.tdiv (x:Int) t102)))) (gL j hj) ?_⟩
  rw [if_neg (by omega),Int.tdiv_eq_ediv_of_nonneg (by omega)]
  have e:(x:Int) / (2:Int) ^ j=((x / 2 ^ j:Nat):Int):=by push_cast;rfl
  have hle:x / 2 ^ j≤x:=Nat.div_le_self _ _
  rw [e]
  generalize x / 2 ^ j=q at hle ⊢
  rw [show wrap64 (q:Int)=(q:Int) from by unfold wrap64;omega]
  exact bA _
theorem aDQ (w:Nat) (h1:1≤w) (h8:w≤8) (a b:Int):kF (jE.f (w:Int) a b) (fun k=>eA.f k (w:Int) a b):=by
 have hp:=gD w h8
 have key:=jY w h1 h8 a b (if b ≥ (w:Int) then (some 0) else (if 0≤(IntKind.u64.wrap b) then ((dE.f (w:Int) (shl .i64 a (IntKind.u64.wrap b))).bind fun t102=>(some t102)) else (none))) (fun k=>eA.j0 k (w:Int) a b (decide (b ≥ (w:Int)))) 0 (fun a0 a1 b0 b1=>by
  by_cases hb:b ≥ (w:Int)
  ·rw [if_pos hb]
   refine ⟨0,rfl,bB ?_⟩
   simp only [eA.j0,decide_eq_true hb,if_true]
   exact bA _
  ·rw [if_neg hb]
   obtain ⟨j,rfl⟩:=Int.eq_ofNat_of_zero_le b0
   obtain ⟨x,rfl⟩:=Int.eq_ofNat_of_zero_le a0
   have hj:j≤8:=by omega
   have hq:=gD j hj
   have hx:x≤255:=by omega
   have hj2:2 ^ j≤256:=Nat.le_trans (Nat.pow_le_pow_right (by decide) hj) (by decide)
   have hm:x * 2 ^ j≤255 * 256:=Nat.mul_le_mul hx hj2
   rw [sW j hj,if_pos (by omega),pH x j (by omega) (by omega),nD w h8]
   refine ⟨_,rfl,bB ?_⟩
   simp only [eA.j0,decide_eq_false hb,Bool.false_eq_true,if_false]
   refine bI (f:=fun k t102=>(aH.f k (w:Int)).bind fun t103=>(if t103=0 then (none) else (some (Int.tmod (wrap64 ((x:Int) * t102)) t103)))) (gL j hj) ?_
   refine bI (f:=fun _ t103=>if t103=0 then (none) else (some (Int.tmod (wrap64 ((x:Int) * (2:Int) ^ j)) t103))) (gL w h8) ?_
   have e:(x:Int) * (2:Int) ^ j=((x * 2 ^ j:Nat):Int):=by push_cast;rfl
   rw [if_neg (by omega),e,show wrap64 ((x * 2 ^ j:Nat):Int)=((x * 2 ^ j:Nat):Int) from by unfold wrap64;omega,Int.tmod_eq_emod_of_nonneg (by omega)]
   exact bA _)
 obtain ⟨v,e1,e2⟩:=key
 refine ⟨v,e1,?_⟩
 obtain ⟨K,e2⟩:=e2
 refine ⟨K + 1,fun k hk=>?_⟩
 have h:=e2 k (by omega)
 obtain ⟨m,rfl⟩:∃ m,k=m + 1:=⟨k - 1,by omega⟩
 have hz:eA.j0 (m + 1) (w:Int) a b true=some 0:=by simp [eA.j0]
 show ((bY.f (m + 1) (w:Int) a b).bind fun t101=>if t101=true then eA.j0 (m + 1) (w:Int) a b (decide (b ≥ (w:Int))) else eA.j0 (m + 1) (w:Int) a b true)=some v
 rw [hz]
 exact h
theorem vG (t:Bool):dQ.f t=cQ.f t:=rfl
theorem rV (t:Bool):∃ v,dQ.f t=some v:=by cases t <;> exact ⟨_,rfl⟩
theorem qV (w:Nat) (h1:1≤w) (h8:w≤8) (a:Int):kF (eG.f (w:Int) a) (fun k=>eD.f k (w:Int) a):=by
 have hp:=gD w h8
 refine sV w h1 h8 a _ (fun k=>(aH.f k (wrap64 ((w:Int) - 1))).bind fun t102=>(if a ≥ t102 then ((aH.f k (w:Int)).bind fun t103=>(some (wrap64 (a - t103)))) else (some a))) 0 (fun a0 a1=>?_)
 obtain ⟨j,rfl⟩:∃ j,w=j + 1:=⟨w - 1,by omega⟩
 have hj:j≤8:=by omega
 rw [show wrap64 (((j + 1:Nat):Int) - 1)=(j:Int) from by unfold wrap64;omega,sW j hj,sW (j + 1) h8,if_pos (by omega),pP j (by omega),pP (j + 1) (by omega)]
 by_cases hc:a ≥ (2:Int) ^ j
 ·rw [if_pos hc,if_pos (by omega)]
  refine ⟨_,rfl,bI (f:=fun k t102=>if a ≥ t102 then ((aH.f k ((j + 1:Nat):Int)).bind fun t103=>(some (wrap64 (a - t103)))) else (some a)) (gL j hj) ?_⟩
  simp only [if_pos hc]
  exact bI (f:=fun _ t103=>some (wrap64 (a - t103))) (gL (j + 1) h8) (bA _)
 ·rw [if_neg hc]
  refine ⟨_,rfl,bI (f:=fun k t102=>if a ≥ t102 then ((aH.f k ((j + 1:Nat):Int)).bind fun t103=>(some (wrap64 (a - t103)))) else (some a)) (gL j hj) ?_⟩
  simp only [if_neg hc]
  exact bA _
theorem aAZ (w:Nat) (h1:1≤w) (h8:w≤8) (a b:Int):kF (gH.f (w:Int) a b) (fun k=>iL.f k (w:Int) a b):=by
 refine jY w h1 h8 a b ((dQ.f (decide (a < b))).bind fun t102=>(some t102)) (fun k=>(cQ.f (decide (a < b))).bind fun t102=>(some t102)) 0 (fun a0 a1 b0 b1=>?_)
 obtain ⟨v,hv⟩:=rV (decide (a < b))
 have hs:=(vG (decide (a < b))).symm.trans hv
 exact ⟨v,by rw [hv];rfl,by rw [hs];exact bA _⟩
theorem pT (w:Nat) (h1:1≤w) (h8:w≤8) (a b:Int):kF (eK.f (w:Int) a b) (fun k=>fL.f k (w:Int) a b):=by
 refine jY w h1 h8 a b ((eG.f (w:Int) a).bind fun t102=>((eG.f (w:Int) b).bind fun t103=>((dQ.f (decide (t102 < t103))).bind fun t104=>(some t104)))) (fun k=>(eD.f k (w:Int) a).bind fun t102=>((eD.f k (w:Int) b).bind fun t103=>((cQ.f (decide (t102 < t103))).bind fun t104=>(some t104)))) 0 (fun a0 a1 b0 b1=>?_)
 obtain ⟨x,e1,e2⟩:=qV w h1 h8 a
 obtain ⟨y,e3,e4⟩:=qV w h1 h8 b
 obtain ⟨v,hv⟩:=rV (decide (x < y))
 have hs:=(vG (decide (x < y))).symm.trans hv
 refine ⟨v,by rw [e1,e3];simp only [Option.bind_some];rw [hv];rfl,?_⟩
 refine bI (f:=fun k t102=>(eD.f k (w:Int) b).bind fun t103=>((cQ.f (decide (t102 < t103))).bind fun t104=>(some t104))) e2 ?_
 refine bI (f:=fun k t103=>(cQ.f (decide (x < t103))).bind fun t104=>(some t104)) e4 ?_
 rw [hs]
 exact bA _
theorem zL (w:Nat) (h1:1≤w) (h8:w≤8) (n:Nat) (n1:1≤n) (n8:n≤8) (a low:Int) (hl : -9223372036854775808≤low∧low≤9223372036854775807):kF (gE.f (w:Int) a low (n:Int)) (fun k=>cY.f k (w:Int) a low (n:Int)):=by
 have hp:=gD w h8
 have key:=sV w h1 h8 a ((aY.f (n:Int) 1 (w:Int)).bind fun t102=>(if t102=true then ((aY.f low 0 (wrap64 ((w:Int) - (n:Int)))).bind fun t103=>(if t103=true then (if 0≤(IntKind.u64.wrap (low)) then ((dE.f (n:Int) (shr .i64 a (IntKind.u64.wrap (low)))).bind fun t104=>(some t104)) else (none)) else (some 0))) else (some 0))) (fun k=>if low < 0 then (cY.j0 k a low (n:Int) true) else ((bD.f (n:Int) 1 (wrap64 ((w:Int) - low))).bind fun t102=>(cY.j0 k a low (n:Int) (!t102)))) 0 (fun a0 a1=>by
  simp only [eO,oF,Option.bind_some]
  have stop:Ev (fun k=>cY.j0 k a low (n:Int) true) 0:=bB (by simp only [cY.j0,if_true];exact bA _)
  by_cases hr:0≤low∧low + (n:Int)≤(w:Int)
  ·rw [decide_eq_true (show (1:Int)≤(n:Int)∧(n:Int)≤(w:Int) by omega),if_pos rfl,decide_eq_true (show (0:Int)≤low∧low≤wrap64 ((w:Int) - (n:Int)) by unfold wrap64;omega),if_pos rfl]
   obtain ⟨j,rfl⟩:=Int.eq_ofNat_of_zero_le hr.1
   obtain ⟨x,rfl⟩:=Int.eq_ofNat_of_zero_le a0
   have hj:j≤8:=by omega
   have hq:=gD j hj
   have hn:=gD n n8
   simp only [if_neg (show ¬ (j:Int) < 0 by omega)]
   rw [decide_eq_true (show (1:Int)≤(n:Int)∧(n:Int)≤wrap64 ((w:Int) - (j:Int)) by unfold wrap64;omega),sW j hj,if_pos (by omega),mO x j (by omega),nD n n8]
   refine ⟨_,rfl,bB ?_⟩
   simp only [cY.j0,Bool.not_true,Bool.false_eq_true,if_false]
   refine bI (f:=fun k t103=>if t103=0 then (none) else ((aH.f k (n:Int)).bind fun t104=>(if t104=0 then (none) else (some (Int.tmod (wrap64 (Int.tdiv (x:Int) t103)) t104))))) (gL j hj) ?_
   simp only [if_neg (show ¬ (2:Int) ^ j=0 by omega)]
   refine bI (f:=fun k t104=>if t104=0 then (none) else (some (Int.tmod (wrap64 (Int.tdiv (x:Int) ((2:Int) ^ j))) t104))) (gL n n8) ?_
   rw [if_neg (by omega),Int.tdiv_eq_ediv_of_nonneg (by omega)]
   have e:(x:Int) / (2:Int) ^ j=((x / 2 ^ j:Nat):Int):=by push_cast;rfl
   have hle:x / 2 ^ j≤x:=Nat.div_le_self _ _
   rw [e]
   generalize x / 2 ^ j=q at hle ⊢
   rw [show wrap64 (q:Int)=(q:Int) from by unfold wrap64;omega,Int.tmod_eq_emod_of_nonneg (by omega)]
   exact bA _
  ·refine ⟨0,?_,?_⟩
   ·by_cases hn:(1:Int)≤(n:Int)∧(n:Int)≤(w:Int)
    ·rw [decide_eq_true hn,if_pos rfl,decide_eq_false (show ¬ ((0:Int)≤low∧low≤wrap64 ((w:Int) - (n:Int))) by unfold wrap64;omega),if_neg (by decide)]
    ·rw [decide_eq_false hn,if_neg (by decide)]
   ·by_cases hz:low < 0
    ·simp only [if_pos hz]
     exact stop
    ·simp only [if_neg hz]
     rw [decide_eq_false (show ¬ ((1:Int)≤(n:Int)∧(n:Int)≤wrap64 ((w:Int) - low)) by unfold wrap64;omega)]
     exact stop)
 obtain ⟨v,e1,e2⟩:=key
 refine ⟨v,e1,?_⟩
 obtain ⟨K,e2⟩:=e2
 refine ⟨K + 1,fun k hk=>?_⟩
 have h:=e2 k (by omega)
 obtain ⟨m,rfl⟩:∃ m,k=m + 1:=⟨k - 1,by omega⟩
 have hz:cY.j0 (m + 1) a low (n:Int) true=some 0:=by simp [cY.j0]
 show ((bV.f (m + 1) (w:Int) a).bind fun t101=>if t101=true then (if low < 0 then (cY.j0 (m + 1) a low (n:Int) true) else ((bD.f (n:Int) 1 (wrap64 ((w:Int) - low))).bind fun t102=>(cY.j0 (m + 1) a low (n:Int) (!t102)))) else cY.j0 (m + 1) a low (n:Int) true)=some v
 rw [hz]
 dsimp only at h
 rw [hz] at h
 exact h
def apG (W w a b c:Int):Bool:=decide (1≤W∧W≤8) && (decide (1≤w∧w≤8) && (decide (0≤a∧a≤255) && (decide (0≤b∧b≤255) && decide (0≤c∧c≤255))))
theorem apI (k:Nat) (o W K A B C w a b c:Int):bL.f k o W K A B C w a b c=bL.j0 k w a b c (!apG W w a b c) o W K A B C:=by
 simp only [bL.f,bU.f,dI.f,eO,Option.bind_some,apG]
 cases decide (1≤W∧W≤8) <;> cases decide (1≤w∧w≤8) <;> cases decide (0≤a∧a≤255) <;> cases decide (0≤b∧b≤255) <;> cases decide (0≤c∧c≤255) <;> rfl
theorem apS (k:Nat) (o W K A B C w a b c:Int):cG.f k o W K A B C w a b c=cG.j0 k w a b c (!apG W w a b c) o W K A B C:=by
 simp only [cG.f,oF,Option.bind_some,apG]
 cases decide (1≤W∧W≤8) <;> cases decide (1≤w∧w≤8) <;> cases decide (0≤a∧a≤255) <;> cases decide (0≤b∧b≤255) <;> cases decide (0≤c∧c≤255) <;> rfl
theorem kF.both {I:Option Int} {S:Nat→Option Int} (h:kF I S):∃ v,Ev (fun _=>I.bind fun t=>some t) v∧Ev (fun k=>(S k).bind fun t=>some t) v:=by
 obtain ⟨v,e1,e2⟩:=h
 exact ⟨v,by rw [e1];exact bA _,bI (f:=fun _ t=>some t) e2 (bA _)⟩
theorem tE (o W K A B C w a b c:Int) (hK : -9223372036854775808≤K∧K≤9223372036854775807):∃ v,Ev (fun k=>bL.f k o W K A B C w a b c) v∧Ev (fun k=>cG.f k o W K A B C w a b c) v:=by
 simp only [apI,apS]
 cases hg:apG W w a b c with
 | false=>exact ⟨0,bB (by simp only [bL.j0,Bool.not_false,if_true];exact bA _),bB (by simp only [cG.j0,Bool.not_false,if_true];exact bA _)⟩
 | true =>
  simp only [apG,Bool.and_eq_true,decide_eq_true_eq] at hg
  obtain ⟨hW,hw,ha,hb,hc⟩:=hg
  obtain ⟨n,rfl⟩:=Int.eq_ofNat_of_zero_le (show 0≤W by omega)
  obtain ⟨u,rfl⟩:=Int.eq_ofNat_of_zero_le (show 0≤w by omega)
  have n1:1≤n:=by omega
  have n8:n≤8:=by omega
  have u1:1≤u:=by omega
  have u8:u≤8:=by omega
  suffices h:∃ v,Ev (fun k=>bL.j0 (k + 1) (u:Int) a b c (!true) o (n:Int) K A B C) v∧Ev (fun k=>cG.j0 (k + 1) (u:Int) a b c (!true) o (n:Int) K A B C) v by
   obtain ⟨v,e1,e2⟩:=h
   exact ⟨v,bB e1,bB e2⟩
  simp only [bL.j0,cG.j0,Bool.not_true,Bool.false_eq_true,if_false,eO,Option.bind_some]
  by_cases h0:o=0
  ·simp only [if_pos h0]
   exact ⟨_,bA _,bA _⟩
  simp only [if_neg h0]
  by_cases h2:o=2
  ·simp only [if_pos h2]
   exact (aAN n n1 n8 a).both
  simp only [if_neg h2]
  by_cases h3:o=3
  ·subst h3
   simp only [dU.f,show decide ((3:Int)≤3∧(3:Int)≤12)=true from rfl,if_true,Option.bind_some]
   exact ⟨_,bA _,bA _⟩
  by_cases h4:o=4
  ·subst h4
   simp only [dU.f,show decide ((3:Int)≤4∧(4:Int)≤12)=true from rfl,if_true,Option.bind_some,if_neg h3]
   exact ⟨_,bA _,bA _⟩
  by_cases h5:o=5
  ·subst h5
   simp only [dU.f,show decide ((3:Int)≤5∧(5:Int)≤12)=true from rfl,if_true,Option.bind_some,if_neg h3,if_neg h4]
   exact ⟨_,bA _,bA _⟩
  by_cases h6:o=6
  ·subst h6
   simp only [dU.f,show decide ((3:Int)≤6∧(6:Int)≤12)=true from rfl,if_true,Option.bind_some,if_neg h3,if_neg h4,if_neg h5]
   obtain ⟨v,e1,e2⟩:=aEA n n1 n8 a b
   exact ⟨v,by rw [e1];exact bA _,bI (f:=fun _ t=>some t) e2 (bA _)⟩
  by_cases h7:o=7
  ·subst h7
   simp only [dU.f,show decide ((3:Int)≤7∧(7:Int)≤12)=true from rfl,if_true,Option.bind_some,if_neg h3,if_neg h4,if_neg h5,if_neg h6]
   obtain ⟨v,e1,e2⟩:=aDL n n1 n8 a b
   exact ⟨v,by rw [e1];exact bA _,bI (f:=fun _ t=>some t) e2 (bA _)⟩
  by_cases h8:o=8
  ·subst h8
   simp only [dU.f,show decide ((3:Int)≤8∧(8:Int)≤12)=true from rfl,if_true,Option.bind_some,if_neg h3,if_neg h4,if_neg h5,if_neg h6,if_neg h7]
   obtain ⟨v,e1,e2⟩:=aED n n1 n8 a b
   exact ⟨v,by rw [e1];exact bA _,bI (f:=fun _ t=>some t) e2 (bA _)⟩
  by_cases h9:o=9
  ·subst h9
   simp only [dU.f,show decide ((3:Int)≤9∧(9:Int)≤12)=true from rfl,if_true,Option.bind_some,if_neg h3,if_neg h4,if_neg h5,if_neg h6,if_neg h7,if_neg h8]
   obtain ⟨v,e1,e2⟩:=aDZ n n1 n8 a b
   exact ⟨v,by rw [e1];exact bA _,bI (f:=fun _ t=>some t) e2 (bA _)⟩
  by_cases h10:o=10
  ·subst h10
   simp only [dU.f,show decide ((3:Int)≤10∧(10:Int)≤12)=true from rfl,if_true,Option.bind_some,if_neg h3,if_neg h4,if_neg h5,if_neg h6,if_neg h7,if_neg h8,if_neg h9]
   obtain ⟨v,e1,e2⟩:=aDH n n1 n8 a b
   exact ⟨v,by rw [e1];exact bA _,bI (f:=fun _ t=>some t) e2 (bA _)⟩
  by_cases h11:o=11
  ·subst h11
   simp only [dU.f,show decide ((3:Int)≤11∧(11:Int)≤12)=true from rfl,if_true,Option.bind_some,if_neg h3,if_neg h4,if_neg h5,if_neg h6,if_neg h7,if_neg h8,if_neg h9,if_neg h10]
   obtain ⟨v,e1,e2⟩:=aDQ n n1 n8 a b
   exact ⟨v,by rw [e1];exact bA _,bI (f:=fun _ t=>some t) e2 (bA _)⟩
  by_cases h12:o=12
  ·subst h12
   simp only [dU.f,show decide ((3:Int)≤12∧(12:Int)≤12)=true from rfl,if_true,Option.bind_some,if_neg h3,if_neg h4,if_neg h5,if_neg h6,if_neg h7,if_neg h8,if_neg h9,if_neg h10,if_neg h11]
   obtain ⟨v,e1,e2⟩:=aDK n n1 n8 a b
   exact ⟨v,by rw [e1];exact bA _,bI (f:=fun _ t=>some t) e2 (bA _)⟩
  simp only [if_neg h3,if_neg h4,if_neg h5,if_neg h6,if_neg h7,if_neg h8,if_neg h9,if_neg h10,if_neg h11,if_neg h12]
  rw [show decide ((3:Int)≤o∧o≤12)=false from decide_eq_false (by omega)]
  simp only [Bool.false_eq_true,if_false]
  by_cases h13:o=13
  ·simp only [if_pos h13]
   obtain ⟨v,hv⟩:=rV (a == b)
   have hs:=(vG (a == b)).symm.trans hv
   exact ⟨v,by rw [hv];exact bA _,by rw [hs];exact bA _⟩
  simp only [if_neg h13]
  by_cases h14:o=14
  ·simp only [if_pos h14]
   exact (aAZ u u1 u8 a b).both
  simp only [if_neg h14]
  by_cases h15:o=15
  ·simp only [if_pos h15]
   exact (pT u u1 u8 a b).both
  simp only [if_neg h15]
  by_cases h16:o=16
  ·simp only [if_pos h16]
   by_cases hj:(n:Int) < (u:Int)
   ·simp only [if_pos hj,decide_eq_true hj]
    exact ⟨b,bB (by simp only [bL.j1,if_true];exact bA _),bA _⟩
   ·simp only [if_neg hj,decide_eq_false hj]
    obtain ⟨j,rfl⟩:∃ j,n=u + j:=⟨n - u,by omega⟩
    have hj8:j≤8:=by omega
    have hq:=gD j hj8
    obtain ⟨x,rfl⟩:=Int.eq_ofNat_of_zero_le ha.1
    have hx:x≤255:=by omega
    have hj2:2 ^ j≤256:=Nat.le_trans (Nat.pow_le_pow_right (by decide) hj8) (by decide)
    have hm:x * 2 ^ j≤255 * 256:=Nat.mul_le_mul hx hj2
    have ew:wrap64 (((u + j:Nat):Int) - (u:Int))=(j:Int):=by unfold wrap64;omega
    have e:(x:Int) * (2:Int) ^ j=((x * 2 ^ j:Nat):Int):=by push_cast;rfl
    refine ⟨wrap64 (((x * 2 ^ j:Nat):Int) + b),bB ?_,?_⟩
    ·simp only [bL.j1,Bool.false_eq_true,if_false,if_pos h16,ew]
     rw [sW j hj8,if_pos (by omega),pH x j (by omega) (by omega)]
     exact bA _
    ·rw [ew]
     refine bI (f:=fun _ t118=>some (wrap64 ((wrap64 ((x:Int) * t118)) + b))) (gL j hj8) ?_
     rw [e,show wrap64 ((x * 2 ^ j:Nat):Int)=((x * 2 ^ j:Nat):Int) from by unfold wrap64;omega]
     exact bA _
  simp only [if_neg h16]
  by_cases h17:o=17
  ·simp only [if_pos h17]
   obtain ⟨v,e1,e2⟩:=(zL u u1 u8 n n1 n8 a K hK).both
   refine ⟨v,bB ?_,e2⟩
   simp only [bL.j1,Bool.false_eq_true,if_false,if_neg h16,if_pos h17]
   exact e1
  simp only [if_neg h17]
  by_cases h18:o=18
  ·simp only [if_pos h18]
   by_cases hx:a=1
   ·refine ⟨b,bB ?_,?_⟩
    ·simp only [bL.j1,Bool.false_eq_true,if_false,if_neg h16,if_neg h17,if_pos h18,beq_iff_eq.2 hx]
     exact bB (by simp only [bL.j2,if_true];exact bA _)
    ·simp only [if_pos hx]
     exact bA _
   ·refine ⟨c,bB ?_,?_⟩
    ·simp only [bL.j1,Bool.false_eq_true,if_false,if_neg h16,if_neg h17,if_pos h18,beq_eq_false_iff_ne.2 hx]
     exact bB (by simp only [bL.j2,Bool.false_eq_true,if_false,if_pos h18];exact bA _)
    ·simp only [if_neg hx]
     exact bA _
  simp only [if_neg h18]
  refine ⟨0,bB ?_,bA _⟩
  simp only [bL.j1,Bool.false_eq_true,if_false,if_neg h16,if_neg h17,if_neg h18]
  exact bB (by simp only [bL.j2,Bool.false_eq_true,if_false,if_neg h18];exact bA _)
theorem xC {α:Type} (x y:List α) (i:Nat) (v:α) (hx:i < x.length) (hy:i < y.length) (h:x[i]? = some v):(x.take i ++ y.drop i).set i v=x.take (i + 1) ++ y.drop (i + 1):=by
 apply List.ext_getElem?
 intro j
 rw [List.getElem?_set]
 simp only [List.length_append,List.length_take,List.length_drop,List.getElem?_append,List.getElem?_take,List.getElem?_drop]
 by_cases hj:i=j
 ·subst hj
  rw [if_pos rfl,if_pos (by omega),if_pos (by omega),if_pos (by omega)]
  exact h.symm
 ·rw [if_neg hj]
  by_cases h1:j < i
  ·rw [if_pos (by omega),if_pos (by omega),if_pos (by omega),if_pos (by omega)]
  ·rw [if_neg (by omega),if_neg (by omega)]
   congr 1
   omega
theorem lL (L:List eE) (i:Nat):aI L (i:Int)=L.getD i z66:=by unfold aI;simp
theorem iG (L:List bN) (i:Nat):aC L (i:Int)=L.getD i z99:=by unfold aC;simp
def qu (o:Int):Bool:=decide (o=19∨o=20)
theorem quI (o w k a b c:Int):dC.f o w k a b c=some (qu o):=by
 unfold dC.f qu
 by_cases h:o=19
 ·rw [if_pos h]
  congr 1
  exact (decide_eq_true (Or.inl h)).symm
 ·rw [if_neg h]
  congr 1
  by_cases h2:o=20
  ·rw [decide_eq_true (Or.inr h2)]
   exact beq_iff_eq.2 h2
  ·rw [decide_eq_false (by omega)]
   exact beq_eq_false_iff_ne.2 h2
theorem zQ (o:Int):bR.f o=some (qu o):=by
 unfold bR.f qu
 by_cases h:o=19
 ·rw [if_pos h]
  congr 1
  exact (decide_eq_true (Or.inl h)).symm
 ·rw [if_neg h]
  congr 1
  by_cases h2:o=20
  ·rw [decide_eq_true (Or.inr h2)]
   exact beq_iff_eq.2 h2
  ·rw [decide_eq_false (by omega)]
   exact beq_eq_false_iff_ne.2 h2
def parts (o a b c:Int):List Int:=if o=2∨o=17∨qu o=true then [a] else if 3≤o∧o≤16 then [a,b] else if o=18 then [a,b,c] else []
theorem qA (k:Nat) (o w kk a b c:Int):dB.f (k + 1) o w kk a b c=some (parts o a b c):=by
 unfold dB.f parts
 by_cases h2:o=2
 ·rw [if_pos h2,if_pos (Or.inl h2)]
  simp only [dB.j0,if_true]
 rw [if_neg h2]
 by_cases h17:o=17
 ·rw [if_pos h17,if_pos (Or.inr (Or.inl h17))]
  simp only [dB.j0,if_true]
 rw [if_neg h17,quI]
 simp only [Option.bind_some]
 cases hq:qu o with
 | true =>
  rw [if_pos (Or.inr (Or.inr rfl))]
  simp only [dB.j0,if_true]
 | false =>
  rw [if_neg (by simp [h2,h17])]
  simp only [dB.j0,Bool.false_eq_true,if_false,eO,Option.bind_some]
  by_cases h3:3≤o∧o≤16
  ·rw [decide_eq_true h3,if_pos rfl,if_pos h3]
  ·rw [decide_eq_false h3,if_neg (by decide),if_neg h3]
   by_cases h18:o=18
   ·rw [if_pos h18,if_pos h18]
   ·rw [if_neg h18,if_neg h18]
theorem pQ (k:Nat) (o w kk a b c:Int):cI.f (k + 1) o w kk a b c=some (parts o a b c):=by
 unfold cI.f parts
 by_cases h2:o=2
 ·rw [if_pos h2,if_pos (Or.inl h2)]
  simp only [cI.j0,if_true]
 rw [if_neg h2]
 by_cases h17:o=17
 ·rw [if_pos h17,if_pos (Or.inr (Or.inl h17))]
  simp only [cI.j0,if_true]
 rw [if_neg h17]
 by_cases h19:o=19
 ·rw [if_pos h19,if_pos (Or.inr (Or.inr (show qu o=true from decide_eq_true (Or.inl h19))))]
  simp only [cI.j0,if_true]
 rw [if_neg h19]
 by_cases h20:o=20
 ·rw [if_pos (Or.inr (Or.inr (show qu o=true from decide_eq_true (Or.inr h20)))),beq_iff_eq.2 h20]
  simp only [cI.j0,if_true]
 have hq:qu o=false:=decide_eq_false (by omega)
 rw [beq_eq_false_iff_ne.2 h20,hq,if_neg (by simp [h2,h17])]
 simp only [cI.j0,Bool.false_eq_true,if_false,oF,Option.bind_some]
 by_cases h3:3≤o∧o≤16
 ·rw [decide_eq_true h3,if_pos rfl,if_pos h3]
 ·rw [decide_eq_false h3,if_neg (by decide),if_neg h3]
  by_cases h18:o=18
  ·rw [if_pos h18,if_pos h18]
  ·rw [if_neg h18,if_neg h18]
def np (x:bN):List Int:=parts x.f0 x.f3 x.f4 x.f5
theorem hF (x:bN):(np x).length≤3:=by
 unfold np parts
 repeat' split
 all_goals simp
def fQ (o kk a b c:Int):Bool:=if o=0∨o=1 then a == 0 && (b == 0 && c == 0) else if o=17 then b == 0 && c == 0 else if qu o=true then c == 0 else if o=2 then kk == 0 && (b == 0 && c == 0) else if 3≤o∧o≤16 then kk == 0 && c == 0 else if o=18 then kk == 0 else kk == 0 && (a == 0 && (b == 0 && c == 0))
theorem aCV (k:Nat) (o w kk a b c:Int):bX.f (k + 1) o w kk a b c=some (fQ o kk a b c):=by
 unfold bX.f
 rw [qA]
 simp only [Option.bind_some]
 by_cases h0:o=0
 ·rw [if_pos h0]
  simp only [bX.j0,if_true,fQ,if_pos (show o=0∨o=1 from Or.inl h0),beq_self_eq_true,Bool.true_and]
 rw [if_neg h0]
 by_cases h1:o=1
 ·rw [beq_iff_eq.2 h1]
  simp only [bX.j0,if_true,fQ,if_pos (show o=0∨o=1 from Or.inr h1),beq_self_eq_true,Bool.true_and]
 rw [beq_eq_false_iff_ne.2 h1]
 simp only [bX.j0,Bool.false_eq_true,if_false,fQ,if_neg (show ¬ (o=0∨o=1) by omega),beq_self_eq_true,Bool.true_and,quI,Option.bind_some]
 by_cases h17:o=17
 ·simp only [if_pos h17]
 simp only [if_neg h17]
 cases hq:qu o with
 | true=>simp only [if_true]
 | false =>
  simp only [Bool.false_eq_true,if_false,parts,hq,h17,or_false,false_or]
  by_cases h2:o=2
  ·simp [h2]
  ·simp only [h2,if_false]
   by_cases h3:3≤o∧o≤16
   ·simp [h3]
   ·simp only [if_neg h3]
    by_cases h18:o=18
    ·simp [h18]
    ·simp [h18]
end Go.Proofs.Ythipjoioicmcnaa.Pure
