-- texts of this session, merged by a program of it (wip/gen/pack.py)
import Derived.Test.YtlpfmhikahlcoaaKFnWin2
import Derived.Test.YtlpfmhikahlcoaaKFnWin3
import Derived.Test.YtlpfmhikahlcoaaKFnWin4
import Derived.Test.YtlpfmhikahlcoaaKFnWin6
import Derived.Test.YtlpfmhikahlcoaaKFnWin7
import Derived.Test.YtlpfmhikahlcoaaKFnWin12
import Derived.Laws.BitsLemmas
import Derived.Test.YtlpfmhikahlcoaaKFnWin5
import Derived.Test.YtlpfmhikahlcoaaKFnWin8
namespace Go.Proofs.Ytlpfmhikahlcoaa.G
open Go.Proofs.Ytlpfmhikahlcoaa.Sh Go.RowKit Go.Proofs.YtlpfmhikahlcoaaW.PrintWords Go.Proofs.YtlpfmhikahlcoaaW.PrintLast Go.Proofs.YtlpfmhikahlcoaaW.PrintMore
attribute [local go_sem] max2_int min2_int max_two min_two max_three min_three max_four min_four
set_option linter.unusedVariables false
set_option linter.unusedSimpArgs false
mutual
def laws_FnWin.j0:Nat→List Int→List Bool→List (S108)→Int→Bool→Int→ByteArray→Option (Bool)
 | 0,_,_,_,_,_,_,_=>none
 | k + 1,x0,x3,x5,x6,x53,x108000,x108001=>if x53=true then (some false) else (laws_FnWin.l0 k x0 x3 x5 x6 (([]:List Int)) 0 x108000 x108001)
def laws_FnWin.l0:Nat→List Int→List Bool→List (S108)→Int→List Int→Int→Int→ByteArray→Option (Bool)
 | 0,_,_,_,_,_,_,_,_=>none
 | k + 1,x0,x3,x5,x6,x10,x11,x108000,x108001=>if x11 < x108000 then ((laws_at.f x0 (wrap64 (x11 + 2))).bind fun B5=>(if x10.length < 17592186044416 then (laws_FnWin.l0 k x0 x3 x5 x6 (x10 ++ [Int.tmod B5 2]) (wrap64 (x11 + 1)) x108000 x108001) else (none))) else ((impl_Play.f k x3 x108000 x108001 x6 x5 x10).bind fun B1=>(if B1=x6 then ((impl_Play.f k x3 x108000 x108001 x6 x5 ([]:List Int)).bind fun B6=>(laws_FnWin.j2 k x0 (B6 != x6))) else (laws_FnWin.j2 k x0 true)))
def laws_FnWin.j2:Nat→List Int→Bool→Option (Bool)
 | 0,_,_=>none
 | k + 1,x0,x85=>if x85=true then (some false) else ((spec_DrawChecks.f k x0).bind fun bt125=>((impl_Checks.f k bt125.1 bt125.2.1 bt125.2.2.1 bt125.2.2.2.1 bt125.2.2.2.2).bind fun Ap=>((spec_Checks.f k bt125.1 bt125.2.1 bt125.2.2.1 bt125.2.2.2.1 bt125.2.2.2.2).bind fun At=>(if (Ap != At)=true then (some false) else ((spec_Decide.f k bt125.1 bt125.2.1 bt125.2.2.1).bind fun bt137=>(if Ap=true then (if bt137.2=true then (some (bt137.1 == bt125.2.2.2.1)) else (some false)) else (some true)))))))
end
def laws_FnWin.f (k:Nat) (l0:List Int):Option (Bool):=(laws_big.f l0).bind fun B7=>(if B7=true then (some true) else ((spec_DrawCase.f k l0).bind fun bt102=>((impl_Win.f k bt102.1 bt102.2.1 bt102.2.2).bind fun bt108=>((spec_Decide.f k bt102.1 bt102.2.1 bt102.2.2).bind fun bt113=>(if bt108.2.2=true then (if bt108.2.1=bt113.1 then ((impl_Checks.f k bt102.1 bt102.2.1 bt102.2.2 bt108.2.1 bt108.1).bind fun Ax=>(laws_FnWin.j0 k l0 bt102.1 bt108.1 bt108.2.1 (!Ax) bt102.2.1 bt102.2.2)) else (laws_FnWin.j0 k l0 bt102.1 bt108.1 bt108.2.1 true bt102.2.1 bt102.2.2)) else (laws_FnWin.j0 k l0 bt102.1 bt108.1 bt108.2.1 true bt102.2.1 bt102.2.2))))))
set_option maxHeartbeats 80000000 in
set_option maxRecDepth 100000 in
theorem laws_FnWin.calls (k:Nat) (A0:Option Addr) (c0:Nat) (l0:List Int) (r:Bool) (w:World) (hr0:Kd.C (Kd.int .u8) w A0 l0.length l0) (hc0:l0.length≤c0) (ht_:r=true) (h:laws_FnWin.f k l0=some r) :
  Calls Try.prog 14 #[.slice A0 l0.length c0] w fun e w'=>e = .returned (.bool r)∧Below w.heap.size w w':=by
 have hu29:=Try.underlying29;have HT:=Aside0.mk ht_;clear ht_;have HR0:=Aside0.mk hr0;have HC0:=Aside0.mk hc0;clear hr0 hc0;have HB:=Aside0.mk (Below.refl w.heap.size w);have H:((laws_big.f l0).bind fun B7=>(if B7=true then (some true) else ((spec_DrawCase.f k l0).bind fun bt102=>((impl_Win.f k bt102.1 bt102.2.1 bt102.2.2).bind fun bt108=>((spec_Decide.f k bt102.1 bt102.2.1 bt102.2.2).bind fun bt113=>(if bt108.2.2=true then (if bt108.2.1=bt113.1 then ((impl_Checks.f k bt102.1 bt102.2.1 bt102.2.2 bt108.2.1 bt108.1).bind fun Ax=>(laws_FnWin.j0 k l0 bt102.1 bt108.1 bt108.2.1 (!Ax) bt102.2.1 bt102.2.2)) else (laws_FnWin.j0 k l0 bt102.1 bt108.1 bt108.2.1 true bt102.2.1 bt102.2.2)) else (laws_FnWin.j0 k l0 bt102.1 bt108.1 bt108.2.1 true bt102.2.1 bt102.2.2)))))))=some r:=h;clear h;replace H:=ob H;obtain ⟨B7,A20,H⟩:=H
 try dsimp only at H
 have A2:=Aside0.mk A20;clear A20
 by_cases c3:B7=true
 ·subst c3
  have H1:(some true)=some r:=by rw [if_pos rfl] at H;exact H
  clear H;have H:=H1;clear H1;obtain rfl:=os H
  go_enter Try.func14,Try.ntmps14
  go_wp2_with (first|((with_reducible refine gate_callee (f:=42) rfl ?_);refine goesL_ (some 20) rfl rfl Try.func42 (by kernel_rfl) rfl #[.slice A0 l0.length c0] rfl ml ?_;(with_reducible refine (laws_big.calls _ _ l0 true _ ?side1 ?side2 A2.out).mono ?_);(case side1=>exact cw HR0.out);(case side2=>exact HC0.out);rintro e w' ⟨rfl,⟨nd,rfl⟩⟩;refine ⟨_,rfl,?_⟩));go_ret;exact ⟨er,tb HB⟩
 ·replace c3:=Bool.eq_false_iff.mpr c3;subst c3
  have H1:((spec_DrawCase.f k l0).bind fun bt102=>((impl_Win.f k bt102.1 bt102.2.1 bt102.2.2).bind fun bt108=>((spec_Decide.f k bt102.1 bt102.2.1 bt102.2.2).bind fun bt113=>(if bt108.2.2=true then (if bt108.2.1=bt113.1 then ((impl_Checks.f k bt102.1 bt102.2.1 bt102.2.2 bt108.2.1 bt108.1).bind fun Ax=>(laws_FnWin.j0 k l0 bt102.1 bt108.1 bt108.2.1 (!Ax) bt102.2.1 bt102.2.2)) else (laws_FnWin.j0 k l0 bt102.1 bt108.1 bt108.2.1 true bt102.2.1 bt102.2.2)) else (laws_FnWin.j0 k l0 bt102.1 bt108.1 bt108.2.1 true bt102.2.1 bt102.2.2)))))=some r:=by rw [if_neg (show ¬ (false=true) by decide)] at H;exact H
  clear H;have H:=H1;clear H1;replace H:=ob H;obtain ⟨⟨Ab,A9,Ad⟩,A40,H⟩:=H
  try dsimp only at H
  have A4:=Aside0.mk A40;clear A40;replace H:=ob H;obtain ⟨⟨Am,Ac,Bg⟩,A50,H⟩:=H
  try dsimp only at H
  have A5:=Aside0.mk A50;clear A50;replace H:=ob H;obtain ⟨⟨B3,t114⟩,A60,H⟩:=H
  try dsimp only at H
  have A6:=Aside0.mk A60;clear A60;have HC7:=Aside0.mk H;clear H
  go_enter Try.func14,Try.ntmps14
  go_upto_region 6 with (first|((with_reducible refine gate_callee (f:=42) rfl ?_);refine goesL_ (some 20) rfl rfl Try.func42 (by kernel_rfl) rfl #[.slice A0 l0.length c0] rfl ml ?_;(with_reducible refine (laws_big.calls _ _ l0 false _ ?side1 ?side2 A2.out).mono ?_);(case side1=>exact cw HR0.out);(case side2=>exact HC0.out);rintro e w' ⟨rfl,⟨nd,rfl⟩⟩;refine ⟨_,rfl,?_⟩)|((with_reducible refine gate_callee (f:=43) rfl ?_);refine goesL_ (some 23) rfl rfl Try.func43 (by kernel_rfl) rfl #[.slice A0 l0.length c0] rfl ml ?_;(with_reducible refine (spec_DrawCase.calls k _ _ l0 Ab A9 Ad _ ?side1 ?side2 A4.out).mono ?_);(case side1=>exact cw HR0.out);(case side2=>exact HC0.out);rintro e w8 ⟨v103,rfl,ho0,hb⟩;refine ⟨_,rfl,?_⟩;have Ae:=Aside0.mk (Kd.R_lower ho0 (below_size (tb HB)));replace HB:=bs0 HB hb;(try clear hb);(try clear hb2);(try clear hk);(try clear hi);(try clear ho0))|((with_reducible refine gate_dst (N:=4) rfl ?_);refine bx (N:=4) (cs:=#[.int .i64 0,.string (⟨#[]⟩:ByteArray)]) (t:=29) ?_;intro Ag hg w9 hbox hb;replace Ae:=rb Ae hb;have A1:=Aside0.mk (hbox);have GW107:=bz0 hg HB;have Aa:=bz0 hg HB;replace HB:=bs0 HB hb;clear hb hbox hg;have hcz10__:=c2_ A1;have hfz10__:=f_ A1;obtain ⟨B0,Ay,eo11⟩:=Kd.R_slice Ae.out;subst eo11)|((with_reducible refine gate_callee (f:=46) rfl ?_);refine goesL_ (some 29) rfl rfl Try.func46 (by kernel_rfl) rfl #[.slice B0 Ab.length Ay,.agg #[.int .i64 A9,.string Ad]] rfl ml ?_;(with_reducible refine (impl_Win.calls k _ _ Ab A9 Ad Am Ac Bg _ ?side1 ?side2 A5.out).mono ?_);(case side1=>refine (Kd.R_reads' (e:=4) (base:=w.heap.size) (ok:=fun k_=>True) (n:=Ab.length) (c:=Ay) ?_).2.2;exact (by (with_reducible repeat (first|apply Kd.R_alloc|apply Kd.R_drewN|apply Kd.R_drew));exact (rf Ae A1)));(case side2=>exact (Kd.R_reads' Ae.out).2.1);rintro e w12 ⟨v109,rfl,ho0,hb⟩;refine ⟨_,rfl,?_⟩;have Aq:=Aside0.mk (Kd.N_lower (Kd.N_mono (ok':=fun k_=>some k_≠(.slice B0 Ab.length Ay:Value).ownBlock∧k_≠Ag) (Kd.S_N (Kd.S_bound ho0)) (fun k_ hk_=>⟨(Kd.fresh' (Kd.R_lt (by (with_reducible repeat (first|apply Kd.R_alloc|apply Kd.R_drewN|apply Kd.R_drew));exact (rf Ae A1))) k_ hk_.2.1),(Kd.freshB (g:=Ag) (o := .cells #[.int .i64 A9,.string Ad] 29 (0,0)) (by (with_reducible repeat (first|refine blk_drewN ?_ _|refine blk_drew ?_|refine blk_alloc ?_ _));exact bp2 A1.out) k_ hk_.2.1)⟩)) (below_size (tb HB)));replace Ae:=rbf Ae A1 hb;replace A1:=Aside0.mk (blk_below (g:=Ag) (o := .cells #[.int .i64 A9,.string Ad] 29 (0,0)) (by (with_reducible repeat (first|refine blk_drewN ?_ _|refine blk_drew ?_|refine blk_alloc ?_ _));exact bp2 A1.out) hb);replace HB:=bs1 HB hb Aa;(try clear hb);(try clear hb2);(try clear hk);(try clear hi);(try clear ho0);have hcz13__:=c2_ A1;have hfz13__:=f_ A1)|((with_reducible refine gate_callee (f:=16) rfl ?_);refine goesL_ (some 36) rfl rfl Try.func16 (by kernel_rfl) rfl #[.slice B0 Ab.length Ay,.agg #[.int .i64 A9,.string Ad]] rfl ml ?_;(with_reducible refine (spec_Decide.calls k _ _ Ab A9 Ad B3 t114 _ ?side1 ?side2 A6.out).mono ?_);(case side1=>exact cw (Kd.R_reads' Ae.out).2.2);(case side2=>exact (Kd.R_reads' Ae.out).2.1);rintro e w14 ⟨rfl,hb⟩;refine ⟨_,rfl,?_⟩;replace Ae:=rb Ae hb;replace Aq:=Aside0.mk (Kd.N_below (by (with_reducible repeat (first|apply Kd.N_alloc|apply Kd.N_drewN|apply Kd.N_drew));exact Aq.out) hb);replace A1:=bb A1 hb;replace HB:=bs1 HB hb Aa;(try clear hb);(try clear hb2);(try clear hk);(try clear hi)))
  (try simp only [Act.put,List.setIfInBounds_toArray,List.set_cons_zero,List.set_cons_succ])
  go_cut [53] (fun v53 wc=>∃ (kq:Nat) (B4:Bool),v53 = .bool B4∧Aside0 (laws_FnWin.j0 kq l0 Ab Am Ac B4 A9 Ad=some r)∧Aside0 (kq≤k)∧Aside0 (Kd.R Kd.bool 4 wc w.heap.size (fun _=>True) (.slice B0 Ab.length Ay) Ab)∧Aside0 (Kd.N k108 108 wc w.heap.size (fun k_=>some k_≠((.slice B0 Ab.length Ay):Value).ownBlock∧k_≠Ag) v109 Am)∧Aside0 (wc.heap[Ag]? = some (.cells #[.int .i64 A9,.string Ad] 29 (0,0)))∧Aside0 (Below w.heap.size w wc))
  case first =>
   have H:=HC7.out;clear HC7
   by_cases c15:Bg=true
   ·subst c15
    have H1:(if Ac=B3 then ((impl_Checks.f k Ab A9 Ad Ac Am).bind fun Ax=>(laws_FnWin.j0 k l0 Ab Am Ac (!Ax) A9 Ad)) else (laws_FnWin.j0 k l0 Ab Am Ac true A9 Ad))=some r:=by rw [if_pos rfl] at H;exact H
    clear H;have H:=H1;clear H1
    by_cases c16:Ac=B3
    ·rw [if_pos c16] at H;have c16b0:(Ac == B3)=true:=beq_iff_eq.mpr c16;have c16b1:(Ac != B3)=false:=bne_eq_false_iff_eq.mpr c16;clear c16;(first|rw [c16b0]|(simp only [i64_w,i32_w];rw [c16b0])|skip);replace H:=ob H;obtain ⟨Ax,A170,H⟩:=H;replace H:(laws_FnWin.j0 k l0 Ab Am Ac (!Ax) A9 Ad)=some r:=H;have A17:=Aside0.mk A170;clear A170;have H':=Aside0.mk H;clear H;have hcz18__:=c2_ A1;have hfz18__:=f_ A1;obtain ⟨Ao19,co19,eo19⟩:=Kd.N_slice Aq.out;subst eo19;go_wp2_with (first|(go_at_call 53;(try simp only [i64_w,i32_w]);(with_reducible refine (impl_Checks.calls k _ _ Ab A9 Ad Ac _ _ Am Ax _ ?side1 ?side2 ?side3 ?side4 A17.out).mono ?_);(case side1=>exact cw (Kd.R_reads' Ae.out).2.2);(case side2=>exact (Kd.R_reads' Ae.out).2.1);(case side3=>repeat (first|exact (Kd.N_reads' Aq.out).2.2|(with_reducible refine Kd.C_alloc ?_ _)|(with_reducible refine Kd.C_drewN ?_ _)|(with_reducible refine Kd.C_drew ?_)));(case side4=>exact (Kd.N_reads' Aq.out).2.1);rintro e w20 ⟨rfl,hb⟩;replace Ae:=rb Ae hb;replace Aq:=Aside0.mk (Kd.N_below (by (with_reducible repeat (first|apply Kd.N_alloc|apply Kd.N_drewN|apply Kd.N_drew));exact Aq.out) hb);replace A1:=bb A1 hb;replace HB:=bs1 HB hb Aa;(try clear hb);(try clear hb2);(try clear hk);(try clear hi)));go_meet
     case rel=>exact ⟨_,(!Ax),(by first|rfl|(simp;done)|(simp [*];done)),H',⟨by first|omega|exact Nat.le_refl _⟩,⟨ra Ae⟩,⟨by (with_reducible repeat (first|apply Kd.N_alloc|apply Kd.N_drewN|apply Kd.N_drew));exact Aq.out⟩,⟨dr A1⟩,⟨by exact tb HB⟩⟩
    ·rw [if_neg c16] at H;have c16b0:(Ac == B3)=false:=beq_eq_false_iff_ne.mpr c16;have c16b1:(Ac != B3)=true:=bne_iff_ne.mpr c16;(first|rw [c16b0]|(simp only [i64_w,i32_w];rw [c16b0])|skip);have H':=Aside0.mk H;clear H;go_wp2;go_meet
     case rel=>exact ⟨_,(true),(by first|rfl|(simp;done)|(simp [*];done)),H',⟨by first|omega|exact Nat.le_refl _⟩,⟨ra Ae⟩,⟨by (with_reducible repeat (first|apply Kd.N_alloc|apply Kd.N_drewN|apply Kd.N_drew));exact Aq.out⟩,⟨dr A1⟩,⟨by exact tb HB⟩⟩
   ·replace c15:=Bool.eq_false_iff.mpr c15;subst c15
    have H1:(laws_FnWin.j0 k l0 Ab Am Ac true A9 Ad)=some r:=by rw [if_neg (show ¬ (false=true) by decide)] at H;exact H
    clear H;have H:=H1;clear H1;have H':=Aside0.mk H;clear H;go_wp2;go_meet
    case rel=>exact ⟨_,(true),(by first|rfl|(simp;done)|(simp [*];done)),H',⟨by first|omega|exact Nat.le_refl _⟩,⟨ra Ae⟩,⟨by (with_reducible repeat (first|apply Kd.N_alloc|apply Kd.N_drewN|apply Kd.N_drew));exact Aq.out⟩,⟨dr A1⟩,⟨by exact tb HB⟩⟩
  case rest =>
   clear HC7;(try clear c1);(try clear p2);(try clear c3);(try clear c4);(try clear c14);(try clear c15);(try clear c16);(try clear c16b0);(try clear c16b1);(try clear hcz10__);(try clear hcz13__);(try clear hcz18__);(try clear hfz10__);(try clear hfz13__);(try clear hfz18__);obtain ⟨kq,B4,rfl,HA,HJ6,An,Ai,A1,HB⟩:=hcut
   cases kq with
      | zero=>exact absurd HA.out (by simp [laws_FnWin.j0])
      | succ kj6 =>
    have H:=HA.out;clear HA;simp only [laws_FnWin.j0] at H
    by_cases c21:B4=true
    ·subst c21
     have H1:(some false)=some r:=by rw [if_pos rfl] at H;exact H
     clear H;have H:=H1;clear H1;exact absurd ((Option.some.inj H).trans HT.out) (by decide)
    ·replace c21:=Bool.eq_false_iff.mpr c21;subst c21
     have H1:(laws_FnWin.l0 kj6 l0 Ab Am Ac (([]:List Int)) 0 A9 Ad)=some r:=by rw [if_neg (show ¬ (false=true) by decide)] at H;exact H
     clear H;have H:=H1;clear H1;obtain ⟨y116,hy116⟩:∃ y_:List Int,y_=(([]:List Int)):=⟨_,rfl⟩
     replace H:(laws_FnWin.l0 kj6 l0 Ab Am Ac y116 0 A9 Ad)=some r:=by first|(rw [hy116];with_reducible exact H)|(have H2_:=(Option.bind_some _ _).symm.trans H;rw [hy116];with_reducible exact H2_)|(have H2_:=(Option.bind_some _ _).symm.trans H;with_reducible exact H2_)|with_reducible exact H|(rw [hy116];exact H)|exact H
     have Ny116:=Aside0.mk hy116;clear hy116;have H':=Aside0.mk H;clear H;go_wp2_with (first|((with_reducible refine gate_dst (N:=54) rfl ?_);refine Kd.R_lit (Kd.int .i64) _ 3 ?hg (N:=54) ?hd (xs:=([]:List Int)) (inner:=[]) (ok:=fun _=>True) (okp:=fun _=>True) ?hr ?hp (fun _ hk=>hk) trivial (Below.refl _ _) (Nat.le_refl _) (by simp) ?_;(case hd=>rfl);(case hg=>rfl);(case hr=>first|(go_simp;done)|(go_simp;rfl));(case hp=>exact (Reps.none _ _));intro v117 w22 ho23 hb hg_ hnew_;clear hg_ hnew_;(first|rw [← Ny116.out] at ho23|(simp only [Int.reduceToNat] at ho23;rw [← Ny116.out] at ho23));replace An:=rb An hb;replace Ai:=Aside0.mk (Kd.N_elder' (by (with_reducible repeat (first|apply Kd.N_alloc|apply Kd.N_drewN|apply Kd.N_drew));exact Ai.out) (Kd.R_base ho23) hb);have Bh:=Aside0.mk (Kd.R_lower ho23 (below_size (tb HB)));replace A1:=bb A1 hb;replace HB:=bs1 HB hb Aa;clear hb ho23))
     go_loopg [10,11] kj6 (fun kq v10 v11 w'=>∃ (Ar:List Int) (As:Int),v11 = .int .i64 As∧Aside0 (laws_FnWin.l0 kq l0 Ab Am Ac Ar As A9 Ad=some r)∧Aside0 (kq≤kj6)∧Aside0 (Kd.R Kd.bool 4 w' w.heap.size (fun _=>True) (.slice B0 Ab.length Ay) Ab)∧Aside0 (Kd.N k108 108 w' w.heap.size (fun k_=>some k_≠((.slice B0 Ab.length Ay):Value).ownBlock∧some k_≠(v10:Value).ownBlock∧k_≠Ag) v109 Am)∧Aside0 (Kd.R (Kd.int .i64) 3 w' w.heap.size (fun _=>True) v10 Ar)∧Aside0 (w'.heap[Ag]? = some (.cells #[.int .i64 A9,.string Ad] 29 (0,0)))∧Aside0 (Below w.heap.size w w'))
     case atStart=>exact ⟨(y116),(0),(by first|rfl|(simp;done)|(simp [*];done)),H',⟨Nat.le_refl _⟩,⟨ra An⟩,⟨by (with_reducible repeat (first|apply Kd.N_alloc|apply Kd.N_drewN|apply Kd.N_drew));exact Kd.N_mono Ai.out (fun _ hk=>⟨hk.1.1,⟨hk.2,hk.1.2⟩⟩)⟩,⟨ra Bh⟩,⟨dr A1⟩,⟨by exact tb HB⟩⟩
     case round =>
      clear H';(try clear c1);(try clear c2);(try clear p2);(try clear c3);(try clear c4);(try clear c14);(try clear c15);(try clear c16);(try clear c16b0);(try clear c16b1);(try clear c21);(try clear hcz10__);(try clear hcz13__);(try clear hcz18__);(try clear hfz10__);(try clear hfz13__);(try clear hfz18__);(try clear p2);obtain ⟨Ar,As,rfl,HA,HK2,An,Ai,Ah,A1,HB⟩:=hrel
      cases gk with
            | zero=>exact absurd HA.out (by simp [laws_FnWin.l0])
            | succ k2 =>
       have H:=HA.out;clear HA;simp only [laws_FnWin.l0] at H
       by_cases c24:As < A9
       ·rw [if_pos c24] at H;have c24b0:decide (As < A9)=true:=decide_eq_true c24;clear c24;replace H:=ob H;obtain ⟨B5,A250,H⟩:=H
        try dsimp only at H
        have A25:=Aside0.mk A250;clear A250
        by_cases c26:Ar.length < 17592186044416
        ·rw [if_pos c26] at H;have LMc26:=Aside0.mk c26;clear c26;obtain ⟨y120,hy120⟩:∃ y_:List Int,y_=(Ar ++ [Int.tmod B5 2]):=⟨_,rfl⟩
         replace H:(laws_FnWin.l0 k2 l0 Ab Am Ac y120 (wrap64 (As + 1)) A9 Ad)=some r:=by first|(rw [hy120];with_reducible exact H)|(have H2_:=(Option.bind_some _ _).symm.trans H;rw [hy120];with_reducible exact H2_)|(have H2_:=(Option.bind_some _ _).symm.trans H;with_reducible exact H2_)|with_reducible exact H|(rw [hy120];exact H)|exact H
         have Ny120:=Aside0.mk hy120;clear hy120;have H':=Aside0.mk H;clear H;have hcz27__:=c2_ A1;have hfz27__:=f_ A1;go_wp2_with (first|((with_reducible refine gate_callee (f:=54) rfl ?_);refine goesL_ (some 65) rfl rfl Try.func54 (by kernel_rfl) rfl #[.slice A0 l0.length c0,.int .i64 (wrap64 (As + 2))] rfl ml ?_;(with_reducible refine (laws_at.calls _ _ l0 (wrap64 (As + 2)) B5 _ ?side1 ?side2 A25.out).mono ?_);(case side1=>exact cw (Kd.C_below HR0.out HB.out));(case side2=>exact HC0.out);rintro e w' ⟨rfl,⟨nd,rfl⟩⟩;refine ⟨_,rfl,?_⟩)|((with_reducible refine gate_builtin (b := .append) (xs:=#[.tmp 61,.tmp 67]) rfl ?_);at_builtin;refine Kd.R_append (Kd.int .i64) (w0:=w) w.heap.size rfl (.tmp 61) (.tmp 67) 33 3 (.int .i64 0) 8 rfl Try.underlying33 info3 rfl (by decide) (by omega) u10 Ar (Int.tmod B5 2) [.int .i64 (Int.tmod B5 2)] (fun _=>True) (fun _=>False) rfl rfl ?aP (fun _ hk=>hk.elim) ?aF ?aO ?aB ?aS ?aL ?_;(case aP=>exact rfl);(case aB=>exact (tb HB));(case aF=>exact (fun _ _=>trivial));(case aO=>exact (ra Ah));(case aS=>exact (below_size (tb HB)));(case aL=>have:=LMc26.out;omega);intro v121 w28 ho hb hg hat;rw [← Ny120.out] at ho;replace An:=Aside0.mk (Kd.R_over' (ra An) (Kd.R_typed (ra Ah)) (by decide) hg);replace Ai:=Aside0.mk (Kd.N_afterv (ok:=(fun k_=>some k_≠(.slice B0 Ab.length Ay:Value).ownBlock∧k_≠Ag)) (by (with_reducible repeat (first|apply Kd.N_alloc|apply Kd.N_drewN|apply Kd.N_drew));exact Kd.N_mono Ai.out (fun _ hk=>⟨⟨hk.1,hk.2.2⟩,hk.2.1⟩)) hg hat);replace A1:=Aside0.mk (blk_grown (g:=Ag) (o := .cells #[.int .i64 A9,.string Ad] 29 (0,0)) (dr A1) hg (Kd.R_ne Ah.out A1.out (by decide)));replace HB:=Aside0.mk (hb);have Bi:=Aside0.mk (ho);clear Ah;clear ho hb hg hat));go_roundg k2
         case measure=>have:=HJ6.out;have:=HK2.out;omega
         case rel=>exact ⟨(y120),(wrap64 (As + 1)),(by first|rfl|(simp;done)|(simp [*];done)),H',⟨by have:=HJ6.out;have:=HK2.out;omega⟩,⟨ra An⟩,⟨by (with_reducible repeat (first|apply Kd.N_alloc|apply Kd.N_drewN|apply Kd.N_drew));exact Kd.N_mono Ai.out (fun _ hk=>⟨hk.1.1,⟨hk.2,hk.1.2⟩⟩)⟩,⟨ra Bi⟩,⟨dr A1⟩,⟨by exact tb HB⟩⟩
        ·rw [if_neg c26] at H;exact absurd H (by simp)
       ·rw [if_neg c24] at H;have c24b0:decide (As < A9)=false:=decide_eq_false c24;clear c24;have HC29:=Aside0.mk H;clear H;have hcz30__:=c2_ A1;have hfz30__:=f_ A1
        go_upto_region 13 with (fail)
        go_cut [85] (fun v85 wc=>∃ (kq:Nat) (B2:Bool),v85 = .bool B2∧Aside0 (laws_FnWin.j2 kq l0 B2=some r)∧Aside0 (kq≤k2)∧Aside0 (wc.heap[Ag]? = some (.cells #[.int .i64 A9,.string Ad] 29 (0,0)))∧Aside0 (Below w.heap.size w wc))
        case first =>
         have H:=HC29.out;clear HC29;replace H:=ob H;obtain ⟨B1,A310,H⟩:=H
         try dsimp only at H
         have A31:=Aside0.mk A310;clear A310
         by_cases c32:B1=Ac
         ·rw [if_pos c32] at H;have c32b0:(B1 == Ac)=true:=beq_iff_eq.mpr c32;have c32b1:(B1 != Ac)=false:=bne_eq_false_iff_eq.mpr c32;clear c32;(first|rw [c32b0]|(simp only [i64_w,i32_w];rw [c32b0])|skip);replace H:=ob H;obtain ⟨B6,A330,H⟩:=H;replace H:(laws_FnWin.j2 k2 l0 (B6 != Ac))=some r:=H;have A33:=Aside0.mk A330;clear A330;have H':=Aside0.mk H;clear H;have hcz34__:=c2_ A1;have hfz34__:=f_ A1;obtain ⟨Ao35,co35,eo35⟩:=Kd.N_slice Ai.out;subst eo35;obtain ⟨Ao36,co36,eo36⟩:=Kd.R_slice Ah.out;subst eo36;go_wp2_with (first|((with_reducible refine gate_callee (f:=55) rfl ?_);refine goesL_ (some 74) rfl rfl Try.func55 (by kernel_rfl) rfl #[.slice B0 Ab.length Ay,.agg #[.int .i64 A9,.string Ad],.int .i64 Ac,.slice Ao35 Am.length co35,.slice Ao36 Ar.length co36] rfl ml ?_;(with_reducible refine (impl_Play.calls k2 _ _ Ab A9 Ad Ac _ _ Am _ _ Ar B1 _ ?side1 ?side2 ?side3 ?side4 ?side5 ?side6 A31.out).mono ?_);(case side1=>exact cw (Kd.R_reads' An.out).2.2);(case side2=>exact (Kd.R_reads' An.out).2.1);(case side3=>repeat (first|exact (Kd.N_reads' Ai.out).2.2|(with_reducible refine Kd.C_alloc ?_ _)|(with_reducible refine Kd.C_drewN ?_ _)|(with_reducible refine Kd.C_drew ?_)));(case side4=>exact (Kd.N_reads' Ai.out).2.1);(case side5=>exact cw (Kd.R_reads' Ah.out).2.2);(case side6=>exact (Kd.R_reads' Ah.out).2.1);rintro e w37 ⟨rfl,hb⟩;refine ⟨_,rfl,?_⟩;replace An:=rb An hb;replace Ai:=Aside0.mk (Kd.N_below (by (with_reducible repeat (first|apply Kd.N_alloc|apply Kd.N_drewN|apply Kd.N_drew));exact Ai.out) hb);replace Ah:=rb Ah hb;replace A1:=bb A1 hb;replace HB:=bs1 HB hb Aa;(try clear hb);(try clear hb2);(try clear hk);(try clear hi);have hcz38__:=c2_ A1;have hfz38__:=f_ A1)|(go_at_call 55;(try simp only [i64_w,i32_w]);(refine (impl_Play.calls k2 _ _ Ab A9 Ad Ac _ _ Am _ _ ([]:List Int) B6 _ ?side1 ?side2 ?side3 ?side4 ?side5 ?side6 A33.out).mono ?_);(case side1=>exact cw (Kd.R_reads' An.out).2.2);(case side2=>exact (Kd.R_reads' An.out).2.1);(case side3=>repeat (first|exact (Kd.N_reads' Ai.out).2.2|(with_reducible refine Kd.C_alloc ?_ _)|(with_reducible refine Kd.C_drewN ?_ _)|(with_reducible refine Kd.C_drew ?_)));(case side4=>exact (Kd.N_reads' Ai.out).2.1);(case side5=>exact Kd.C_nil _ _);(case side6=>exact Nat.le_refl _);rintro e w39 ⟨rfl,hb⟩;replace An:=rb An hb;replace Ai:=Aside0.mk (Kd.N_below (by (with_reducible repeat (first|apply Kd.N_alloc|apply Kd.N_drewN|apply Kd.N_drew));exact Ai.out) hb);replace Ah:=rb Ah hb;replace A1:=bb A1 hb;replace HB:=bs1 HB hb Aa;(try clear hb);(try clear hb2);(try clear hk);(try clear hi)));go_meet
          case rel=>exact ⟨_,((B6 != Ac)),(by first|rfl|(simp;done)|(simp [*];done)),H',⟨by have:=HJ6.out;have:=HK2.out;first|omega|exact Nat.le_refl _⟩,⟨dr A1⟩,⟨by exact tb HB⟩⟩
         ·rw [if_neg c32] at H;have c32b0:(B1 == Ac)=false:=beq_eq_false_iff_ne.mpr c32;have c32b1:(B1 != Ac)=true:=bne_iff_ne.mpr c32;(first|rw [c32b0]|(simp only [i64_w,i32_w];rw [c32b0])|skip);have H':=Aside0.mk H;clear H;have hcz40__:=c2_ A1;have hfz40__:=f_ A1;obtain ⟨Ao41,co41,eo41⟩:=Kd.N_slice Ai.out;subst eo41;obtain ⟨Ao42,co42,eo42⟩:=Kd.R_slice Ah.out;subst eo42;go_wp2_with (first|((with_reducible refine gate_callee (f:=55) rfl ?_);refine goesL_ (some 74) rfl rfl Try.func55 (by kernel_rfl) rfl #[.slice B0 Ab.length Ay,.agg #[.int .i64 A9,.string Ad],.int .i64 Ac,.slice Ao41 Am.length co41,.slice Ao42 Ar.length co42] rfl ml ?_;(with_reducible refine (impl_Play.calls k2 _ _ Ab A9 Ad Ac _ _ Am _ _ Ar B1 _ ?side1 ?side2 ?side3 ?side4 ?side5 ?side6 A31.out).mono ?_);(case side1=>exact cw (Kd.R_reads' An.out).2.2);(case side2=>exact (Kd.R_reads' An.out).2.1);(case side3=>repeat (first|exact (Kd.N_reads' Ai.out).2.2|(with_reducible refine Kd.C_alloc ?_ _)|(with_reducible refine Kd.C_drewN ?_ _)|(with_reducible refine Kd.C_drew ?_)));(case side4=>exact (Kd.N_reads' Ai.out).2.1);(case side5=>exact cw (Kd.R_reads' Ah.out).2.2);(case side6=>exact (Kd.R_reads' Ah.out).2.1);rintro e w43 ⟨rfl,hb⟩;refine ⟨_,rfl,?_⟩;replace An:=rb An hb;replace Ai:=Aside0.mk (Kd.N_below (by (with_reducible repeat (first|apply Kd.N_alloc|apply Kd.N_drewN|apply Kd.N_drew));exact Ai.out) hb);replace Ah:=rb Ah hb;replace A1:=bb A1 hb;replace HB:=bs1 HB hb Aa;(try clear hb);(try clear hb2);(try clear hk);(try clear hi)));go_meet
          case rel=>exact ⟨_,(true),(by first|rfl|(simp;done)|(simp [*];done)),H',⟨by have:=HJ6.out;have:=HK2.out;first|omega|exact Nat.le_refl _⟩,⟨dr A1⟩,⟨by exact tb HB⟩⟩
        case rest =>
         clear HC29;(try clear c1);(try clear c2);(try clear p2);(try clear c3);(try clear c4);(try clear c5);(try clear p6);(try clear c14);(try clear c15);(try clear c16);(try clear c16b0);(try clear c16b1);(try clear c21);(try clear c24);(try clear c24b0);(try clear c26);(try clear c32);(try clear c32b0);(try clear c32b1);(try clear c42);(try clear c43);(try clear hcz10__);(try clear hcz13__);(try clear hcz18__);(try clear hcz27__);(try clear hcz30__);(try clear hcz34__);(try clear hcz38__);(try clear hcz40__);(try clear hfz10__);(try clear hfz13__);(try clear hfz18__);(try clear hfz27__);(try clear hfz30__);(try clear hfz34__);(try clear hfz38__);(try clear hfz40__);(try clear p2);obtain ⟨kq,B2,rfl,HA,HJ28,A1,HB⟩:=hcut
         cases kq with
                  | zero=>exact absurd HA.out (by simp [laws_FnWin.j2])
                  | succ kj28 =>
          have H:=HA.out;clear HA;simp only [laws_FnWin.j2] at H
          by_cases c44:B2=true
          ·subst c44
           have H1:(some false)=some r:=by rw [if_pos rfl] at H;exact H
           clear H;have H:=H1;clear H1;exact absurd ((Option.some.inj H).trans HT.out) (by decide)
          ·replace c44:=Bool.eq_false_iff.mpr c44;subst c44
           have H1:((spec_DrawChecks.f kj28 l0).bind fun bt125=>((impl_Checks.f kj28 bt125.1 bt125.2.1 bt125.2.2.1 bt125.2.2.2.1 bt125.2.2.2.2).bind fun Ap=>((spec_Checks.f kj28 bt125.1 bt125.2.1 bt125.2.2.1 bt125.2.2.2.1 bt125.2.2.2.2).bind fun At=>(if (Ap != At)=true then (some false) else ((spec_Decide.f kj28 bt125.1 bt125.2.1 bt125.2.2.1).bind fun bt137=>(if Ap=true then (if bt137.2=true then (some (bt137.1 == bt125.2.2.2.1)) else (some false)) else (some true)))))))=some r:=by rw [if_neg (show ¬ (false=true) by decide)] at H;exact H
           clear H;have H:=H1;clear H1;replace H:=ob H;obtain ⟨⟨Ao,Aj,Ak,Au,Aw⟩,A450,H⟩:=H
           try dsimp only at H
           have A45:=Aside0.mk A450;clear A450;replace H:=ob H;obtain ⟨Ap,A460,H⟩:=H
           try dsimp only at H
           have A46:=Aside0.mk A460;clear A460;replace H:=ob H;obtain ⟨At,A470,H⟩:=H
           try dsimp only at H
           have A47:=Aside0.mk A470;clear A470
           by_cases c48:(Ap != At)=true
           ·rw [if_pos c48] at H;have c48b0:(Ap != At)=true:=c48
            (try (have c48b1:decide (Ap=At)=false:=by simpa using c48))
            (try (have c48b2:(Ap == At)=false:=by simpa using c48))
            (try (have c48b3:¬ (Ap=At):=by simpa using c48))
            clear c48;exact absurd ((Option.some.inj H).trans HT.out) (by decide)
           ·rw [if_neg c48] at H
            have c48b0:(Ap != At)=false:=by simpa using c48
            (try (have c48b1:decide (Ap=At)=true:=by simpa using c48))
            (try (have c48b2:(Ap == At)=true:=by simpa using c48))
            clear c48;replace H:=ob H;obtain ⟨⟨B8,Bb⟩,A490,H⟩:=H;replace H:(if Ap=true then (if Bb=true then (some (B8 == Au)) else (some false)) else (some true))=some r:=H;have A49:=Aside0.mk A490;clear A490
            by_cases c50:Ap=true
            ·subst c50
             have H1:(if Bb=true then (some (B8 == Au)) else (some false))=some r:=by rw [if_pos rfl] at H;exact H
             clear H;have H:=H1;clear H1
             by_cases c51:Bb=true
             ·subst c51
              have H1:(some (B8 == Au))=some r:=by rw [if_pos rfl] at H;exact H
              clear H;have H:=H1;clear H1;obtain rfl:=os H
              go_wp2_with (first|((with_reducible refine gate_callee (f:=56) rfl ?_);refine goesL_ (some 88) rfl rfl Try.func56 (by kernel_rfl) rfl #[.slice A0 l0.length c0] rfl ml ?_;(with_reducible refine (spec_DrawChecks.calls kj28 _ _ l0 Ao Aj Ak Au Aw _ ?side1 ?side2 A45.out).mono ?_);(case side1=>exact cw (Kd.C_below HR0.out HB.out));(case side2=>exact HC0.out);rintro e w52 ⟨v126,v132,rfl,ho0,ho1,hb⟩;refine ⟨_,rfl,?_⟩;have A3:=Aside0.mk (Kd.R_lower (Kd.R_mono (ok':=fun k_=>True) ho0 (fun _ hk_=>trivial)) (below_size (tb HB)));have A8:=Aside0.mk (Kd.N_lower (Kd.N_mono (ok':=fun k_=>some k_≠(v126:Value).ownBlock∧k_≠Ag) ho1 (fun k_ hk_=>⟨hk_.2,(Kd.freshB (g:=Ag) (o := .cells #[.int .i64 A9,.string Ad] 29 (0,0)) (dr A1) k_ hk_.1)⟩)) (below_size (tb HB)));replace A1:=bb A1 hb;replace HB:=bs1 HB hb Aa;(try clear hb);(try clear hb2);(try clear hk);(try clear hi);(try clear ho0);(try clear ho1))|((with_reducible refine gate_dst (N:=13) rfl ?_);refine bx (N:=13) (cs:=#[.int .i64 0,.string (⟨#[]⟩:ByteArray)]) (t:=29) ?_;intro Af hg w53 hbox hb;replace A3:=rb A3 hb;replace A8:=Aside0.mk (Kd.N_below (Kd.N_elderB (by (with_reducible repeat (first|apply Kd.N_alloc|apply Kd.N_drewN|apply Kd.N_drew));exact A8.out) Af (Nat.le_of_eq hg.symm)) hb);have A7:=Aside0.mk (hbox);have Bj:=bz1 hg HB Aa;have Az:=bz1 hg HB Aa;replace HB:=bs1 HB hb Aa;have Al:=nl hg A1;have Av:=ng hg A1;replace A1:=bb A1 hb;clear hb hbox hg;have hnb54:=Av.out;have hnc54:=Al.out;have hcz55__:=c2_ A7;have hfz55__:=f_ A7;obtain ⟨Bc,B9,eo56⟩:=Kd.R_slice A3.out;subst eo56;obtain ⟨Bk,Be,eo57⟩:=Kd.N_slice A8.out;subst eo57)|((with_reducible refine gate_callee (f:=53) rfl ?_);refine goesL_ (some 97) rfl rfl Try.func53 (by kernel_rfl) rfl #[.slice Bc Ao.length B9,.agg #[.int .i64 Aj,.string Ak],.int .i64 Au,.slice Bk Aw.length Be] rfl ml ?_;(with_reducible refine (impl_Checks.calls kj28 _ _ Ao Aj Ak Au _ _ Aw true _ ?side1 ?side2 ?side3 ?side4 A46.out).mono ?_);(case side1=>refine (Kd.R_reads' (e:=4) (base:=w.heap.size) (ok:=fun k_=>True) (n:=Ao.length) (c:=B9) ?_).2.2;exact (by (with_reducible repeat (first|apply Kd.R_alloc|apply Kd.R_drewN|apply Kd.R_drew));exact (rf A3 A7)));(case side2=>exact (Kd.R_reads' A3.out).2.1);(case side3=>refine (Kd.N_reads' (e:=108) (base:=w.heap.size) (ok:=fun k_=>((some k_≠(.slice Bc Ao.length B9:Value).ownBlock∧k_≠Ag)∧k_≠Af)) (n:=Aw.length) (c:=Be) ?_).2.2;exact (by (with_reducible repeat (first|apply Kd.N_alloc|apply Kd.N_drewN|apply Kd.N_drew));exact (Kd.N_mono (Kd.N_far (p:=⟨Af,1,none⟩) (Kd.N_far (p:=⟨Af,0,none⟩) (Kd.N_mono A8.out (fun k_ hk=>(⟨hk,hk.2⟩:_∧k_≠Af))) (fun _ hk=>hk.2) (.int .i64 Aj)) (fun _ hk=>hk.2) (.string Ak)) (fun _ h_=>h_.1))));(case side4=>exact (Kd.N_reads' A8.out).2.1);rintro e w58 ⟨rfl,hb⟩;refine ⟨_,rfl,?_⟩;replace A3:=rbf A3 A7 hb;replace A8:=Aside0.mk (Kd.N_below (by (with_reducible repeat (first|apply Kd.N_alloc|apply Kd.N_drewN|apply Kd.N_drew));exact (Kd.N_mono (Kd.N_far (p:=⟨Af,1,none⟩) (Kd.N_far (p:=⟨Af,0,none⟩) (Kd.N_mono A8.out (fun k_ hk=>(⟨hk,hk.2⟩:_∧k_≠Af))) (fun _ hk=>hk.2) (.int .i64 Aj)) (fun _ hk=>hk.2) (.string Ak)) (fun _ h_=>h_.1))) hb);replace A1:=Aside0.mk (blk_below (dq A1 Al) hb);replace A7:=Aside0.mk (blk_below (g:=Af) (o := .cells #[.int .i64 Aj,.string Ak] 29 (0,0)) (by (with_reducible repeat (first|refine blk_drewN ?_ _|refine blk_drew ?_|refine blk_alloc ?_ _));exact bp2 A7.out) hb);replace HB:=bs2 HB hb Aa Az;(try clear hb);(try clear hb2);(try clear hk);(try clear hi);have hcz59__:=c2_ A7;have hfz59__:=f_ A7)|((with_reducible refine gate_callee (f:=51) rfl ?_);refine goesL_ (some 103) rfl rfl Try.func51 (by kernel_rfl) rfl #[.slice Bc Ao.length B9,.agg #[.int .i64 Aj,.string Ak],.int .i64 Au,.slice Bk Aw.length Be] rfl ml ?_;(with_reducible refine (spec_Checks.calls kj28 _ _ Ao Aj Ak Au _ _ Aw At _ ?side1 ?side2 ?side3 ?side4 A47.out).mono ?_);(case side1=>exact cw (Kd.R_reads' A3.out).2.2);(case side2=>exact (Kd.R_reads' A3.out).2.1);(case side3=>repeat (first|exact (Kd.N_reads' A8.out).2.2|(with_reducible refine Kd.C_alloc ?_ _)|(with_reducible refine Kd.C_drewN ?_ _)|(with_reducible refine Kd.C_drew ?_)));(case side4=>exact (Kd.N_reads' A8.out).2.1);rintro e w60 ⟨rfl,hb⟩;refine ⟨_,rfl,?_⟩;replace A3:=rb A3 hb;replace A8:=Aside0.mk (Kd.N_below (by (with_reducible repeat (first|apply Kd.N_alloc|apply Kd.N_drewN|apply Kd.N_drew));exact A8.out) hb);replace A1:=bb A1 hb;replace A7:=bb A7 hb;replace HB:=bs2 HB hb Aa Az;(try clear hb);(try clear hb2);(try clear hk);(try clear hi);have hcz61__:=c2_ A7;have hfz61__:=f_ A7)|((with_reducible refine gate_callee (f:=16) rfl ?_);refine goesL_ (some 108) rfl rfl Try.func16 (by kernel_rfl) rfl #[.slice Bc Ao.length B9,.agg #[.int .i64 Aj,.string Ak]] rfl ml ?_;(with_reducible refine (spec_Decide.calls kj28 _ _ Ao Aj Ak B8 true _ ?side1 ?side2 A49.out).mono ?_);(case side1=>exact cw (Kd.R_reads' A3.out).2.2);(case side2=>exact (Kd.R_reads' A3.out).2.1);rintro e w62 ⟨rfl,hb⟩;refine ⟨_,rfl,?_⟩;replace A3:=rb A3 hb;replace A8:=Aside0.mk (Kd.N_below (by (with_reducible repeat (first|apply Kd.N_alloc|apply Kd.N_drewN|apply Kd.N_drew));exact A8.out) hb);replace A1:=bb A1 hb;replace A7:=bb A7 hb;replace HB:=bs2 HB hb Aa Az;(try clear hb);(try clear hb2);(try clear hk);(try clear hi)))
              go_ret;exact ⟨er,tb HB⟩
             ·replace c51:=Bool.eq_false_iff.mpr c51;subst c51
              have H1:(some false)=some r:=by rw [if_neg (show ¬ (false=true) by decide)] at H;exact H
              clear H;have H:=H1;clear H1;exact absurd ((Option.some.inj H).trans HT.out) (by decide)
            ·replace c50:=Bool.eq_false_iff.mpr c50;subst c50
             have H1:(some true)=some r:=by rw [if_neg (show ¬ (false=true) by decide)] at H;exact H
             clear H;have H:=H1;clear H1;obtain rfl:=os H
             go_wp2_with (first|((with_reducible refine gate_callee (f:=56) rfl ?_);refine goesL_ (some 88) rfl rfl Try.func56 (by kernel_rfl) rfl #[.slice A0 l0.length c0] rfl ml ?_;(with_reducible refine (spec_DrawChecks.calls kj28 _ _ l0 Ao Aj Ak Au Aw _ ?side1 ?side2 A45.out).mono ?_);(case side1=>exact cw (Kd.C_below HR0.out HB.out));(case side2=>exact HC0.out);rintro e w63 ⟨v126,v132,rfl,ho0,ho1,hb⟩;refine ⟨_,rfl,?_⟩;have A3:=Aside0.mk (Kd.R_lower (Kd.R_mono (ok':=fun k_=>True) ho0 (fun _ hk_=>trivial)) (below_size (tb HB)));have A8:=Aside0.mk (Kd.N_lower (Kd.N_mono (ok':=fun k_=>some k_≠(v126:Value).ownBlock∧k_≠Ag) ho1 (fun k_ hk_=>⟨hk_.2,(Kd.freshB (g:=Ag) (o := .cells #[.int .i64 A9,.string Ad] 29 (0,0)) (dr A1) k_ hk_.1)⟩)) (below_size (tb HB)));replace A1:=bb A1 hb;replace HB:=bs1 HB hb Aa;(try clear hb);(try clear hb2);(try clear hk);(try clear hi);(try clear ho0);(try clear ho1))|((with_reducible refine gate_dst (N:=13) rfl ?_);refine bx (N:=13) (cs:=#[.int .i64 0,.string (⟨#[]⟩:ByteArray)]) (t:=29) ?_;intro Af hg w64 hbox hb;replace A3:=rb A3 hb;replace A8:=Aside0.mk (Kd.N_below (Kd.N_elderB (by (with_reducible repeat (first|apply Kd.N_alloc|apply Kd.N_drewN|apply Kd.N_drew));exact A8.out) Af (Nat.le_of_eq hg.symm)) hb);have A7:=Aside0.mk (hbox);have Bj:=bz1 hg HB Aa;have Az:=bz1 hg HB Aa;replace HB:=bs1 HB hb Aa;have Al:=nl hg A1;have Av:=ng hg A1;replace A1:=bb A1 hb;clear hb hbox hg;have hnb65:=Av.out;have hnc65:=Al.out;have hcz66__:=c2_ A7;have hfz66__:=f_ A7;obtain ⟨Bd,Ba,eo67⟩:=Kd.R_slice A3.out;subst eo67;obtain ⟨Bl,Bf,eo68⟩:=Kd.N_slice A8.out;subst eo68)|((with_reducible refine gate_callee (f:=53) rfl ?_);refine goesL_ (some 97) rfl rfl Try.func53 (by kernel_rfl) rfl #[.slice Bd Ao.length Ba,.agg #[.int .i64 Aj,.string Ak],.int .i64 Au,.slice Bl Aw.length Bf] rfl ml ?_;(with_reducible refine (impl_Checks.calls kj28 _ _ Ao Aj Ak Au _ _ Aw false _ ?side1 ?side2 ?side3 ?side4 A46.out).mono ?_);(case side1=>refine (Kd.R_reads' (e:=4) (base:=w.heap.size) (ok:=fun k_=>True) (n:=Ao.length) (c:=Ba) ?_).2.2;exact (by (with_reducible repeat (first|apply Kd.R_alloc|apply Kd.R_drewN|apply Kd.R_drew));exact (rf A3 A7)));(case side2=>exact (Kd.R_reads' A3.out).2.1);(case side3=>refine (Kd.N_reads' (e:=108) (base:=w.heap.size) (ok:=fun k_=>((some k_≠(.slice Bd Ao.length Ba:Value).ownBlock∧k_≠Ag)∧k_≠Af)) (n:=Aw.length) (c:=Bf) ?_).2.2;exact (by (with_reducible repeat (first|apply Kd.N_alloc|apply Kd.N_drewN|apply Kd.N_drew));exact (Kd.N_mono (Kd.N_far (p:=⟨Af,1,none⟩) (Kd.N_far (p:=⟨Af,0,none⟩) (Kd.N_mono A8.out (fun k_ hk=>(⟨hk,hk.2⟩:_∧k_≠Af))) (fun _ hk=>hk.2) (.int .i64 Aj)) (fun _ hk=>hk.2) (.string Ak)) (fun _ h_=>h_.1))));(case side4=>exact (Kd.N_reads' A8.out).2.1);rintro e w69 ⟨rfl,hb⟩;refine ⟨_,rfl,?_⟩;replace A3:=rbf A3 A7 hb;replace A8:=Aside0.mk (Kd.N_below (by (with_reducible repeat (first|apply Kd.N_alloc|apply Kd.N_drewN|apply Kd.N_drew));exact (Kd.N_mono (Kd.N_far (p:=⟨Af,1,none⟩) (Kd.N_far (p:=⟨Af,0,none⟩) (Kd.N_mono A8.out (fun k_ hk=>(⟨hk,hk.2⟩:_∧k_≠Af))) (fun _ hk=>hk.2) (.int .i64 Aj)) (fun _ hk=>hk.2) (.string Ak)) (fun _ h_=>h_.1))) hb);replace A1:=Aside0.mk (blk_below (dq A1 Al) hb);replace A7:=Aside0.mk (blk_below (g:=Af) (o := .cells #[.int .i64 Aj,.string Ak] 29 (0,0)) (by (with_reducible repeat (first|refine blk_drewN ?_ _|refine blk_drew ?_|refine blk_alloc ?_ _));exact bp2 A7.out) hb);replace HB:=bs2 HB hb Aa Az;(try clear hb);(try clear hb2);(try clear hk);(try clear hi);have hcz70__:=c2_ A7;have hfz70__:=f_ A7)|((with_reducible refine gate_callee (f:=51) rfl ?_);refine goesL_ (some 103) rfl rfl Try.func51 (by kernel_rfl) rfl #[.slice Bd Ao.length Ba,.agg #[.int .i64 Aj,.string Ak],.int .i64 Au,.slice Bl Aw.length Bf] rfl ml ?_;(with_reducible refine (spec_Checks.calls kj28 _ _ Ao Aj Ak Au _ _ Aw At _ ?side1 ?side2 ?side3 ?side4 A47.out).mono ?_);(case side1=>exact cw (Kd.R_reads' A3.out).2.2);(case side2=>exact (Kd.R_reads' A3.out).2.1);(case side3=>repeat (first|exact (Kd.N_reads' A8.out).2.2|(with_reducible refine Kd.C_alloc ?_ _)|(with_reducible refine Kd.C_drewN ?_ _)|(with_reducible refine Kd.C_drew ?_)));(case side4=>exact (Kd.N_reads' A8.out).2.1);rintro e w71 ⟨rfl,hb⟩;refine ⟨_,rfl,?_⟩;replace A3:=rb A3 hb;replace A8:=Aside0.mk (Kd.N_below (by (with_reducible repeat (first|apply Kd.N_alloc|apply Kd.N_drewN|apply Kd.N_drew));exact A8.out) hb);replace A1:=bb A1 hb;replace A7:=bb A7 hb;replace HB:=bs2 HB hb Aa Az;(try clear hb);(try clear hb2);(try clear hk);(try clear hi);have hcz72__:=c2_ A7;have hfz72__:=f_ A7)|((with_reducible refine gate_callee (f:=16) rfl ?_);refine goesL_ (some 108) rfl rfl Try.func16 (by kernel_rfl) rfl #[.slice Bd Ao.length Ba,.agg #[.int .i64 Aj,.string Ak]] rfl ml ?_;(with_reducible refine (spec_Decide.calls kj28 _ _ Ao Aj Ak B8 Bb _ ?side1 ?side2 A49.out).mono ?_);(case side1=>exact cw (Kd.R_reads' A3.out).2.2);(case side2=>exact (Kd.R_reads' A3.out).2.1);rintro e w73 ⟨rfl,hb⟩;refine ⟨_,rfl,?_⟩;replace A3:=rb A3 hb;replace A8:=Aside0.mk (Kd.N_below (by (with_reducible repeat (first|apply Kd.N_alloc|apply Kd.N_drewN|apply Kd.N_drew));exact A8.out) hb);replace A1:=bb A1 hb;replace A7:=bb A7 hb;replace HB:=bs2 HB hb Aa Az;(try clear hb);(try clear hb2);(try clear hk);(try clear hi)))
             go_ret;exact ⟨er,tb HB⟩
end Go.Proofs.Ytlpfmhikahlcoaa.G
set_option linter.unusedSimpArgs false
set_option linter.unusedVariables false
namespace Go.Proofs.Ytlpfmhikahlcoaa.Pure
open Go.RowKit Go.Proofs.YtlpfmhikahlcoaaW.PrintWords Go.Proofs.YtlpfmhikahlcoaaW.PrintLast Go.Proofs.YtlpfmhikahlcoaaW.PrintMore
theorem rounds {R:Type} (L:Nat→Nat→Option R) (n:Nat) (r:R) (step:∀ k i,i < n→L (k + 1) i=L k (i + 1)) (stop:∀ k,L (k + 1) n=some r):∀ k,n < k→L k 0=some r:=by
 have h:∀ d i k,i + d=n→d < k→L k i=some r:=by
  intro d
  induction d with
  | zero =>
   intro i k hi hk
   obtain ⟨k,rfl⟩:∃ m,k=m + 1:=⟨k - 1,by omega⟩
   obtain rfl:i=n:=by omega
   exact stop k
  | succ d ih =>
   intro i k hi hk
   obtain ⟨k,rfl⟩:∃ m,k=m + 1:=⟨k - 1,by omega⟩
   rw [step k i (by omega)]
   exact ih (i + 1) k (by omega) (by omega)
 exact fun k hk=>h n 0 k (by omega) hk
theorem rounds_to {R:Type} (L:Nat→Nat→R) (n:Nat) (p:Nat→Bool) (S E:Nat→R) (step:∀ k i,i < n→(∀ j,j < i→p j=true)→p i=true→L (k + 1) i=L k (i + 1))
  (exit:∀ k i,i < n→(∀ j,j < i→p j=true)→p i=false→L (k + 1) i=E k) (stop:∀ k,(∀ j,j < n→p j=true)→L (k + 1) n=S k) :
  ∀ k,n < k→∃ j,k - n - 1≤j∧j < k∧L k 0=if (List.range n).all p then S j else E j:=by
 have h:∀ d i k,i + d=n→d < k→(∀ j,j < i→p j=true)→∃ j,k - d - 1≤j∧j < k∧L k i=if (List.range n).all p then S j else E j:=by
  intro d
  induction d with
  | zero =>
   intro i k hi hk hp
   obtain ⟨k,rfl⟩:∃ m,k=m + 1:=⟨k - 1,by omega⟩
   obtain rfl:i=n:=by omega
   refine ⟨k,by omega,by omega,?_⟩
   rw [stop k hp,if_pos (List.all_eq_true.2 fun x hx=>hp x (by simpa using hx))]
  | succ d ih =>
   intro i k hi hk hp
   obtain ⟨k,rfl⟩:∃ m,k=m + 1:=⟨k - 1,by omega⟩
   cases hpi:p i with
   | true =>
    obtain ⟨j,h1,h2,h3⟩:=ih (i + 1) k (by omega) (by omega) (fun j hj=>by
     rcases Nat.eq_or_lt_of_le (Nat.lt_succ_iff.1 hj) with e|e
     ·exact e ▸ hpi
     ·exact hp j e)
    exact ⟨j,by omega,by omega,(step k i (by omega) hp hpi).trans h3⟩
   | false =>
    refine ⟨k,by omega,by omega,?_⟩
    rw [exit k i (by omega) hp hpi,if_neg (fun ha=>by have:=List.all_eq_true.1 ha i (by simp;omega);rw [hpi] at this;cases this)]
 exact fun k hk=>h n 0 k (by omega) hk (fun j hj=>absurd hj (by omega))
theorem rounds_pre {R:Type} (L:Nat→Nat→Option R) (n:Nat) (p:Nat→Bool) (r bad:R) (step:∀ k i,i < n→(∀ j,j < i→p j=true)→p i=true→L (k + 1) i=L k (i + 1))
  (exit:∀ k i,i < n→(∀ j,j < i→p j=true)→p i=false→L (k + 1) i=some bad) (stop:∀ k,(∀ j,j < n→p j=true)→L (k + 1) n=some r) :
  ∀ k,n < k→L k 0=some (if (List.range n).all p then r else bad):=by
 intro k hk
 obtain ⟨j,_,_,h⟩:=rounds_to L n p (fun _=>some r) (fun _=>some bad) step exit stop k hk
 rw [h]
 split <;> rfl
theorem w64 {n:Int} (h0 : -9223372036854775808≤n) (h1:n≤9223372036854775807):wrap64 n=n:=by
 unfold wrap64
 omega
theorem w64s (i:Nat) (h:i < 4611686018427387904):wrap64 ((i:Int) + 1)=((i + 1:Nat):Int):=by
 rw [w64 (by omega) (by omega)]
 omega
theorem wfi {a:Int} (h:(Lit.int .i64 a).wf=true) : -9223372036854775808≤a∧a≤9223372036854775807:=by
 have hmin:IntKind.i64.min = -9223372036854775808:=rfl
 have hmax:IntKind.i64.max=9223372036854775807:=rfl
 simp only [Lit.wf,Bool.and_eq_true,decide_eq_true_eq] at h
 omega
theorem u64_of {a:Int} (h0:0≤a) (h1:a≤18446744073709551615):IntKind.u64.wrap a=a:=by
 have h:IntKind.u64.wrap a=a % 18446744073709551616:=by
  simp [IntKind.wrap,IntKind.bits,IntKind.signed]
 rw [h]
 omega
theorem rd_nat (xs:List Int) (i:Nat):rd xs (i:Int)=xs.getD i 0:=by unfold rd;simp
theorem rdOf_nat {α:Type} (d:α) (xs:List α) (i:Nat):rdOf d xs (i:Int)=xs.getD i d:=by unfold rdOf;simp
theorem getD_lt {α:Type} (xs:List α) (i:Nat) (d:α) (h:i < xs.length):xs.getD i d=xs[i]:=by
 rw [List.getD_eq_getElem?_getD,List.getElem?_eq_getElem h]
 rfl
theorem take_succ_getD {α:Type} (xs:List α) (i:Nat) (d:α) (h:i < xs.length):xs.take (i + 1)=xs.take i ++ [xs.getD i d]:=by
 rw [List.take_succ_eq_append_getElem h,getD_lt xs i d h]
theorem set_front {α:Type} (p l:List α) (i:Nat) (v:α) (hl:p.length=l.length) (h:i < l.length) (hv:p[i]? = some v):(p.take i ++ l.drop i).set i v=p.take (i + 1) ++ l.drop (i + 1):=by
 apply List.ext_getElem?
 intro j
 by_cases hj:j=i
 ·subst hj
  rw [List.getElem?_set_self (by simp;omega),List.getElem?_append_left (by simp;omega),List.getElem?_take_of_lt (by omega),hv]
 ·rw [List.getElem?_set_ne (by omega)]
  rcases Nat.lt_or_ge j i with h1|h1
  ·rw [List.getElem?_append_left (by simp;omega),List.getElem?_append_left (by simp;omega),List.getElem?_take_of_lt (by omega),List.getElem?_take_of_lt (by omega)]
  ·rw [List.getElem?_append_right (by simp;omega),List.getElem?_append_right (by simp;omega)]
   simp only [List.length_take,List.getElem?_drop]
   congr 1
   omega
theorem bt_nat (s:ByteArray) (i:Nat) (h:i < s.size):bt s (i:Int)=(s[i].toNat:Int):=by
 unfold bt
 simp [h]
theorem toList_data (s:ByteArray):s.toList=s.data.toList:=ByteArray.toList_eq s
end Go.Proofs.Ytlpfmhikahlcoaa.Pure
set_option linter.unusedSimpArgs false
set_option linter.unusedVariables false
namespace Go.Proofs.Ytlpfmhikahlcoaa.Pure
open Go.RowKit Go.Proofs.Ytlpfmhikahlcoaa.G Go.Proofs.YtlpfmhikahlcoaaW.PrintWords Go.Proofs.YtlpfmhikahlcoaaW.PrintLast Go.Proofs.YtlpfmhikahlcoaaW.PrintMore
theorem rounds_all {R:Type} (L:Nat→Nat→Option R) (n:Nat) (p:Nat→Bool) (r bad:R) (step:∀ k i,i < n→p i=true→L (k + 1) i=L k (i + 1)) (exit:∀ k i,i < n→p i=false→L (k + 1) i=some bad)
  (stop:∀ k,L (k + 1) n=some r):∀ k,n < k→L k 0=some (if (List.range n).all p then r else bad) :=
 rounds_pre L n p r bad (fun k i hi _ hp=>step k i hi hp) (fun k i hi _ hp=>exit k i hi hp) (fun k _=>stop k)
def sgn (b:Bool):Int:=if b then 49 else 48
def ones (l:List Bool):ByteArray:=⟨(l.map fun b=>if b then (49:UInt8) else 48).toArray⟩
theorem ones_size (l:List Bool):(ones l).size=l.length:=by
 show (l.map fun b=>if b then (49:UInt8) else 48).toArray.size=_
 simp
theorem bt_ones (l:List Bool) (i:Nat) (h:i < l.length):bt (ones l) (i:Int)=sgn (l.getD i false):=by
 have hs:i < (ones l).size:=by rw [ones_size];exact h
 rw [bt_nat _ i hs,getD_lt l i false h]
 have e:(ones l)[i]=if l[i] then (49:UInt8) else 48:=by
  have h1:(ones l).data.toList[i]? = some (ones l)[i]:=by
   rw [List.getElem?_eq_getElem (by simpa using hs)]
   rfl
  have h2:(ones l).data.toList[i]? = some (if l[i] then (49:UInt8) else 48):=by simp [ones,h]
  exact Option.some.inj (h1.symm.trans h2)
 rw [e]
 unfold sgn
 cases l[i] <;> rfl
theorem data_inj {a b:ByteArray} (h:a.data.toList=b.data.toList):a=b:=by
 cases a;cases b
 simp only [ByteArray.mk.injEq]
 exact Array.toList_inj.1 h
theorem toList_inj {a b:ByteArray}:a.toList=b.toList↔a=b:=by
 rw [toList_data,toList_data]
 exact ⟨data_inj,fun h=>h ▸ rfl⟩
theorem strOfNums_ones (l:List Bool):strOfNums (l.map sgn)=ones l:=by
 unfold strOfNums ones
 congr 2
 rw [List.map_map]
 refine List.map_congr_left fun b _=>?_
 cases b <;> rfl
def tok (N:Int) (s:ByteArray):Bool:=decide (0≤N∧N≤12∧(s.size:Int)=2 ^ N.toNat) && (List.range s.size).all fun (i:Nat)=>bt s (i:Int) == 48 || bt s (i:Int) == 49
theorem tok_form {N:Int} {s:ByteArray} (h:tok N s=true):∃ (n:Nat) (l:List Bool),N=(n:Int)∧n≤12∧l.length=2 ^ n∧s=ones l:=by
  unfold tok at h
  simp only [Bool.and_eq_true,decide_eq_true_eq] at h
  obtain ⟨⟨h0,h1,h2⟩,h3⟩:=h
  obtain ⟨n,rfl⟩:=Int.eq_ofNat_of_zero_le h0
  have h2':s.size=2 ^ n:=by
    rw [Int.toNat_natCast] at h2
    exact_mod_cast h2
  refine ⟨n,(List.range s.size).map fun (i:Nat)=>decide (bt s (i:Int)=49),rfl,by omega,by simp [h2'],?_⟩
  apply data_inj
  apply List.ext_getElem?
  intro i
  rcases Nat.lt_or_ge i s.size with hi|hi
  · have hb:=List.all_eq_true.1 h3 i (by simpa using hi)
    have e:s.data.toList[i]? = some s[i]:=by
      rw [List.getElem?_eq_getElem (by simpa using hi)]
      rfl
    rw [e]
    have hv:=bt_nat s i hi
    simp only [ones,List.map_map,List.getElem?_map,List.getElem?_range hi,Option.map_some,Function.comp]
    congr 1
    simp only [Bool.or_eq_true,beq_iff_eq] at hb
    have hd : ∀ c : UInt8, ((c.toNat : Int) = 48 → c = 48) ∧ ((c.toNat : Int) = 49 → c = 49) := fun c => ⟨fun h => UInt8.toNat_inj.1 (by have : c.toNat = 48 := by omega
                                                                                                                                         rw [this]; rfl), fun h => UInt8.toNat_inj.1 (by have : c.toNat = 49 := by omega
                                                                                                                                                                                         rw [this];rfl)⟩
    rcases hb with hb|hb
    · have hc:=(hd s[i]).1 (hv ▸ hb)
      simp [hb,hc]
    · have hc:=(hd s[i]).2 (hv ▸ hb)
      simp [hb,hc]
  · rw [List.getElem?_eq_none (by simpa using hi),List.getElem?_eq_none (by simp [ones];exact hi)]
theorem tok_ones {n:Nat} {l:List Bool} (hn:n≤12) (hl:l.length=2 ^ n):tok (n:Int) (ones l)=true:=by
 unfold tok
 rw [Bool.and_eq_true]
 refine ⟨decide_eq_true ⟨by omega,by omega,?_⟩,List.all_eq_true.2 fun i hi=>?_⟩
 ·rw [ones_size,hl,Int.toNat_natCast]
  norm_cast
 ·have hi':i < l.length:=by rw [ones_size] at hi;simpa using hi
  rw [bt_ones l i hi']
  unfold sgn
  cases l.getD i false <;> rfl
theorem pow12 {n:Nat} (hn:n≤12):2 ^ n≤4096:=Nat.pow_le_pow_right (by decide) hn
theorem pow62 {n:Nat} (hn:n≤61):(2:Int) ^ n≤2305843009213693952:=by
 have h:2 ^ n≤2 ^ 61:=Nat.pow_le_pow_right (by decide) hn
 have h2:((2 ^ n:Nat):Int)≤((2 ^ 61:Nat):Int):=by exact_mod_cast h
 have h3:((2 ^ n:Nat):Int)=(2:Int) ^ n:=by norm_cast
 omega
theorem pow_pos_ (n:Nat):(1:Int)≤2 ^ n:=by
 have h:1≤2 ^ n:=Nat.one_le_two_pow
 have h2:((1:Nat):Int)≤((2 ^ n:Nat):Int):=by exact_mod_cast h
 have h3:((2 ^ n:Nat):Int)=(2:Int) ^ n:=by norm_cast
 omega
theorem pow2_eq (n:Nat) (hn:n≤60):∀ k,n < k→spec_l01Pow2.f k (n:Int)=some ((2:Int) ^ n):=by
 intro k hk
 unfold spec_l01Pow2.f
 refine rounds (fun k i=>spec_l01Pow2.l0 k (n:Int) ((2:Int) ^ i) (i:Int)) n _ ?_ ?_ k hk
 ·intro k i hi
  simp only [spec_l01Pow2.l0]
  have h1:=pow62 (n:=i + 1) (by omega)
  have h2:=pow_pos_ i
  rw [if_pos (by omega),w64s i (by omega),show (2:Int) * 2 ^ i=2 ^ (i + 1) from by rw [Int.pow_succ];omega,w64 (by have:=pow_pos_ (i + 1);omega) (by omega)]
 ·intro k
  simp only [spec_l01Pow2.l0]
  rw [if_neg (by omega)]
theorem spec_TableOk_eq (N:Int) (s:ByteArray) (hs:s.size≤1099511627776):∀ k,s.size + 20 < k→spec_TableOk.f k N s=some (tok N s):=by
 intro k hk
 obtain ⟨k,rfl⟩:∃ m,k=m + 1:=⟨k - 1,by omega⟩
 unfold spec_TableOk.f spec_l01In.f
 by_cases h0:N ≥ 0
 ·rw [if_pos h0]
  by_cases h1:N≤12
  ·obtain ⟨n,rfl⟩:=Int.eq_ofNat_of_zero_le h0
   simp only [h1,decide_true,Option.bind_some,if_true]
   rw [pow2_eq n (by omega) (k + 1) (by omega)]
   simp only [Option.bind_some,spec_TableOk.j0]
   by_cases h2:(s.size:Int)=2 ^ n
   ·rw [if_neg (by simp [h2])]
    have h:=rounds_all (fun k i=>spec_TableOk.l0 k (i:Int) (n:Int) s) s.size (fun i=>bt s i == 48 || bt s i == 49) true false ?_ ?_ ?_ k (by omega)
    ·refine h.trans ?_
     unfold tok
     rw [decide_eq_true (⟨h0,h1,by rw [Int.toNat_natCast];exact h2⟩:0≤(n:Int)∧(n:Int)≤12∧(s.size:Int)=2 ^ (n:Int).toNat),Bool.true_and]
     congr 1
     split <;> simp_all
    ·intro k i hi hp
     simp only [spec_TableOk.l0]
     simp only [Bool.or_eq_true,beq_iff_eq] at hp
     rw [if_pos (by omega),if_pos (by omega),w64s i (by omega)]
     rcases hp with hp|hp
     ·rw [if_pos hp]
     ·rw [if_neg (by omega),if_pos hp]
    ·intro k i hi hp
     simp only [spec_TableOk.l0]
     simp only [Bool.or_eq_false_iff,beq_eq_false_iff_ne] at hp
     rw [if_pos (by omega),if_pos (by omega),if_neg hp.1,if_neg hp.2]
    ·intro k
     simp only [spec_TableOk.l0]
     rw [if_neg (by omega)]
   ·rw [if_pos (by simpa using h2)]
    unfold tok
    rw [decide_eq_false (by rintro ⟨_,_,h⟩;rw [Int.toNat_natCast] at h;exact h2 h),Bool.false_and]
  ·simp only [h1,decide_false,Option.bind_some]
   simp only [Bool.false_eq_true,if_false,spec_TableOk.j0,if_true]
   unfold tok
   rw [decide_eq_false (by omega),Bool.false_and]
 ·rw [if_neg h0]
  simp only [Option.bind_some,Bool.false_eq_true,if_false,spec_TableOk.j0,if_true]
  unfold tok
  rw [decide_eq_false (by omega),Bool.false_and]
theorem shl_eq (n:Nat) (hn:n≤60):shl .i64 1 (n:Int)=(2:Int) ^ n:=by
 unfold shl
 rw [Int.toNat_natCast,show min n IntKind.i64.bits=n from by simp [IntKind.bits];omega,Int.one_mul,IntKind.wrap_i64]
 have h1:=pow62 (n:=n) (by omega)
 have h2:=pow_pos_ n
 omega
theorem impl_TableOk_eq (N:Int) (s:ByteArray) (hs:s.size≤1099511627776):∀ k,s.size + 20 < k→impl_TableOk.f k N s=some (tok N s):=by
 intro k hk
 obtain ⟨k,rfl⟩:∃ m,k=m + 1:=⟨k - 1,by omega⟩
 unfold impl_TableOk.f impl_within.f
 by_cases h0:N ≥ 0
 ·rw [if_pos h0]
  by_cases h1:N≤12
  ·obtain ⟨n,rfl⟩:=Int.eq_ofNat_of_zero_le h0
   simp only [h1,decide_true,Option.bind_some,if_true]
   rw [u64_of (by omega) (by omega),if_pos (by omega),shl_eq n (by omega)]
   simp only [impl_TableOk.j0]
   by_cases h2:(s.size:Int)=2 ^ n
   ·rw [if_neg (by simp [h2])]
    have h:=rounds_all (fun k i=>impl_TableOk.l0 k (s.size:Int) (i:Int) (n:Int) s) s.size (fun i=>bt s i == 48 || bt s i == 49) true false ?_ ?_ ?_ k (by omega)
    ·refine h.trans ?_
     unfold tok
     rw [decide_eq_true (⟨h0,h1,by rw [Int.toNat_natCast];exact h2⟩:0≤(n:Int)∧(n:Int)≤12∧(s.size:Int)=2 ^ (n:Int).toNat),Bool.true_and]
     congr 1
     split <;> simp_all
    ·intro k i hi hp
     simp only [impl_TableOk.l0]
     simp only [Bool.or_eq_true,beq_iff_eq] at hp
     rw [if_pos (by omega),if_pos (by omega),if_pos (by omega),w64s i (by omega)]
     rcases hp with hp|hp
     ·rw [if_pos hp]
     ·rw [if_neg (by omega),if_pos hp]
    ·intro k i hi hp
     simp only [impl_TableOk.l0]
     simp only [Bool.or_eq_false_iff,beq_eq_false_iff_ne] at hp
     rw [if_pos (by omega),if_pos (by omega),if_pos (by omega),if_neg hp.1,if_neg hp.2]
    ·intro k
     simp only [impl_TableOk.l0]
     rw [if_neg (by omega)]
   ·rw [if_pos (by simpa using h2)]
    unfold tok
    rw [decide_eq_false (by rintro ⟨_,_,h⟩;rw [Int.toNat_natCast] at h;exact h2 h),Bool.false_and]
  ·simp only [h1,decide_false,Option.bind_some]
   simp only [Bool.false_eq_true,if_false,impl_TableOk.j0,if_true]
   unfold tok
   rw [decide_eq_false (by omega),Bool.false_and]
 ·rw [if_neg h0]
  simp only [Option.bind_some,Bool.false_eq_true,if_false,impl_TableOk.j0,if_true]
  unfold tok
  rw [decide_eq_false (by omega),Bool.false_and]
def digs (n:Nat):List UInt8:=if n < 10 then [UInt8.ofNat (48 + n)] else digs (n / 10) ++ [UInt8.ofNat (48 + n % 10)]
termination_by n
decreasing_by omega
theorem digs_small {n:Nat} (h:n < 10):digs n=[UInt8.ofNat (48 + n)]:=by rw [digs,if_pos h]
theorem digs_big {n:Nat} (h:¬ n < 10):digs n=digs (n / 10) ++ [UInt8.ofNat (48 + n % 10)]:=by rw [digs,if_neg h]
theorem digs_len (d:Nat):∀ n,n < 10 ^ d→(digs n).length≤max 1 d:=by
 induction d with
 | zero=>intro n hn;rw [digs_small (by omega)];simp
 | succ d ih =>
  intro n hn
  by_cases h:n < 10
  ·rw [digs_small h];simp <;> omega
  ·rw [digs_big h]
   have:=ih (n / 10) (by rw [Nat.pow_succ] at hn;omega)
   simp
   by_cases hd:d=0
   ·subst hd;omega
   ·omega
def byts (l:List UInt8):ByteArray:=⟨l.toArray⟩
theorem byts_append (a b:List UInt8):byts a ++ byts b=byts (a ++ b):=by
 apply data_inj
 rw [ByteArray.data_append]
 simp [byts]
theorem byts_size (l:List UInt8):(byts l).size=l.length:=by
 show l.toArray.size=_
 simp
theorem byts_inj {a b:List UInt8} (h:byts a=byts b):a=b:=by
 have:=congrArg (fun s:ByteArray=>s.data.toList) h
 simpa [byts] using this
theorem digits_step (k:Nat) (s:List UInt8) (x:Nat) (h1:x≤18446744073709551615) (hs:s.length≤100) (h0:s=[]∨0 < x):impl_digits.l0 (k + 1) (x:Int) (byts s)=impl_digits.l0 k ((x / 10:Nat):Int) (byts (UInt8.ofNat (48 + x % 10) :: s)):=by
 have hm:Int.tmod (x:Int) 10=((x % 10:Nat):Int):=by rw [Int.tmod_eq_emod_of_nonneg (by omega)];omega
 have hd:Int.tdiv (x:Int) 10=((x / 10:Nat):Int):=by rw [Int.tdiv_eq_ediv_of_nonneg (by omega)];omega
 have he:(byts s).toList=s:=by rw [toList_data];simp [byts]
 have hc:strOfNums [(IntKind.u64.wrap (48 + Int.tmod (x:Int) 10)) % 256]=byts [UInt8.ofNat (48 + x % 10)]:=by
  rw [hm,u64_of (by omega) (by omega),show ((48:Int) + ((x % 10:Nat):Int)) % 256=((48 + x % 10:Nat):Int) by omega]
  rfl
 simp only [impl_digits.l0,he,Option.bind_some,hc,byts_size,hd]
 rw [u64_of (a:=((x / 10:Nat):Int)) (by omega) (by omega),byts_append]
 by_cases hs0:s=[]
 ·rw [if_pos hs0,if_pos (by rw [List.length_singleton];omega)];rfl
 ·have hx:=h0.resolve_left hs0
  rw [if_neg hs0,if_pos (by omega),if_pos (by rw [List.length_singleton];omega)];rfl
theorem digits_stop (k:Nat) (s:List UInt8) (hs:s≠[]):impl_digits.l0 (k + 1) 0 (byts s)=some (byts s):=by
 have he:(byts s).toList=s:=by rw [toList_data];simp [byts]
 simp only [impl_digits.l0,he]
 rw [if_neg hs,if_neg (by decide)]
theorem digits_loop (d:Nat):∀ (x:Nat) (s:List UInt8) (k:Nat),(s=[]∨0 < x)→x < 10 ^ (d + 1)→x≤18446744073709551615→s.length + d≤60→d + 1 < k→impl_digits.l0 k (x:Int) (byts s)=some (byts (digs x ++ s)):=by
 induction d with
 | zero =>
  intro x s k h0 h1 h2 h3 hk
  obtain ⟨k,rfl⟩:∃ m,k=m + 2:=⟨k - 2,by omega⟩
  rw [digits_step (k + 1) s x h2 (by omega) h0,show x / 10=0 by omega,show ((0:Nat):Int)=0 from rfl,digits_stop _ _ (by simp),digs_small (by omega),Nat.mod_eq_of_lt (by omega)]
  rfl
 | succ d ih =>
  intro x s k h0 h1 h2 h3 hk
  obtain ⟨k,rfl⟩:∃ m,k=m + 1:=⟨k - 1,by omega⟩
  rw [digits_step k s x h2 (by omega) h0]
  by_cases h:x < 10
  ·obtain ⟨k,rfl⟩:∃ m,k=m + 1:=⟨k - 1,by omega⟩
   rw [show x / 10=0 by omega,show ((0:Nat):Int)=0 from rfl,digits_stop _ _ (by simp),digs_small h,Nat.mod_eq_of_lt h]
   rfl
  ·rw [ih (x / 10) _ k (.inr (by omega)) (by rw [Nat.pow_succ] at h1;omega) (by omega) (by simp;omega) (by omega),digs_big h]
   simp
theorem impl_digits_eq (n:Nat) (hn:n≤18446744073709551615):∀ k,22≤k→impl_digits.f k (n:Int)=some (byts (digs n)):=by
 intro k hk
 unfold impl_digits.f
 have h:=digits_loop 19 n [] k (.inl rfl) (by omega) hn (by simp) (by omega)
 simpa [byts] using h
def decs (a:Int):List UInt8:=if a < 0 then 45 :: digs (-a).toNat else digs a.toNat
theorem impl_decimal_eq (a:Int) (h0 : -9223372036854775808≤a) (h1:a≤9223372036854775807):∀ k,22≤k→impl_decimal.f k a=some (byts (decs a)):=by
 intro k hk
 unfold impl_decimal.f decs
 by_cases h:a < 0
 ·rw [if_pos h,if_pos h,w64 (n:=a + 1) (by omega) (by omega),w64 (n := -(a + 1)) (by omega) (by omega),u64_of (a := -(a + 1)) (by omega) (by omega),u64_of (a := -(a + 1) + 1) (by omega) (by omega),show -(a + 1) + 1=(((-a).toNat:Nat):Int) by omega,impl_digits_eq _ (by omega) k hk,Option.bind_some]
  have:=digs_len 20 (-a).toNat (by omega)
  rw [if_pos (by rw [byts_size];omega)]
  exact congrArg some (byts_append [45] _)
 ·rw [if_neg h,if_neg h,u64_of (by omega) (by omega),show a=((a.toNat:Nat):Int) by omega,impl_digits_eq _ (by omega) k hk,Option.bind_some]
  rfl
def keyOf (N:Int) (s:ByteArray):ByteArray:=if tok N s then byts (digs N.toNat) ++ ⟨#[58]⟩ ++ s else ⟨#[]⟩
end Go.Proofs.Ytlpfmhikahlcoaa.Pure
set_option linter.unusedSimpArgs false
set_option linter.unusedVariables false
namespace Go.Proofs.Ytlpfmhikahlcoaa.Pure
open Go.RowKit Go.Proofs.YtlpfmhikahlcoaaW.PrintWords Go.Proofs.YtlpfmhikahlcoaaW.PrintLast Go.Proofs.YtlpfmhikahlcoaaW.PrintMore
theorem ev_some {α:Type} (r:α):Ev (fun _=>some r) r:=⟨0,fun _ _=>rfl⟩
theorem ev_ge {α:Type} {g:Nat→Option α} {r:α} (n:Nat) (h:∀ k,n < k→g k=some r):Ev g r:=⟨n + 1,fun k hk=>h k (by omega)⟩
theorem ev_step {α:Type} {g f:Nat→Option α} {r:α} (h:∀ k,g (k + 1)=f k) (e:Ev f r):Ev g r:=by
 obtain ⟨K,e⟩:=e
 refine ⟨K + 1,fun k hk=>?_⟩
 obtain ⟨m,rfl⟩:∃ m,k=m + 1:=⟨k - 1,by omega⟩
 rw [h m]
 exact e m (by omega)
theorem ev_succ {α:Type} {g:Nat→Option α} {r:α} (e:Ev (fun k=>g (k + 1)) r):Ev g r:=ev_step (fun _=>rfl) e
theorem ev_bind {α β:Type} {g:Nat→Option α} {f:Nat→α→Option β} {a:α} {r:β} (h:Ev g a) (e:Ev (fun n=>f n a) r):Ev (fun n=>(g n).bind (f n)) r:=by
 obtain ⟨K,h⟩:=h
 obtain ⟨M,e⟩:=e
 refine ⟨K + M,fun n hn=>?_⟩
 show (g n).bind (f n)=some r
 rw [h n (by omega)]
 exact e n (by omega)
theorem ev_rounds {α:Type} {g:Nat→Option α} {r:α} (h:Ev g r):∃ k,g k=some r:=by
 obtain ⟨K,h⟩:=h
 exact ⟨K,h K (Nat.le_refl _)⟩
theorem ev_loop {α:Type} (L:Nat→Nat→Option α) (n:Nat) (r:α) (step:∀ i,i < n→Ev (fun k=>L k (i + 1)) r→Ev (fun k=>L k i) r) (stop:Ev (fun k=>L k n) r):∀ i,i≤n→Ev (fun k=>L k i) r:=by
 have h:∀ d i,i + d=n→Ev (fun k=>L k i) r:=by
  intro d
  induction d with
  | zero =>
   intro i hi
   obtain rfl:i=n:=by omega
   exact stop
  | succ d ih=>intro i hi;exact step i (by omega) (ih (i + 1) (by omega))
 exact fun i hi=>h (n - i) i (by omega)
end Go.Proofs.Ytlpfmhikahlcoaa.Pure
set_option linter.unusedSimpArgs false
set_option linter.unusedVariables false
namespace Go.Proofs.Ytlpfmhikahlcoaa.Pure
open Go.RowKit Go.Proofs.Ytlpfmhikahlcoaa.G Go.Proofs.YtlpfmhikahlcoaaW.PrintWords Go.Proofs.YtlpfmhikahlcoaaW.PrintLast Go.Proofs.YtlpfmhikahlcoaaW.PrintMore
theorem u8_digit {n:Nat} (h:n < 10):(UInt8.ofNat (48 + n)).toNat=48 + n:=by
 rw [UInt8.toNat_ofNat']
 omega
def numD (l:List UInt8):Nat:=l.foldl (fun a c=>10 * a + (c.toNat - 48)) 0
theorem numD_digs:∀ n,numD (digs n)=n:=by
 intro n
 induction n using Nat.strongRecOn with
 | ind n ih =>
  by_cases h:n < 10
  ·rw [digs_small h]
   unfold numD
   simp only [List.foldl_cons,List.foldl_nil]
   rw [u8_digit h]
   omega
  ·have e:=ih (n / 10) (by omega)
   rw [digs_big h]
   unfold numD at e ⊢
   rw [List.foldl_append,e]
   simp only [List.foldl_cons,List.foldl_nil]
   rw [u8_digit (by omega)]
   omega
theorem digs_ge:∀ n,∀ c∈digs n,48≤c.toNat:=by
 intro n
 induction n using Nat.strongRecOn with
 | ind n ih =>
  intro c hc
  by_cases h:n < 10
  ·rw [digs_small h,List.mem_singleton] at hc
   rw [hc,u8_digit h]
   omega
  ·rw [digs_big h] at hc
   rcases List.mem_append.1 hc with hc|hc
   ·exact ih (n / 10) (by omega) c hc
   ·rw [List.mem_singleton] at hc
    rw [hc,u8_digit (by omega)]
    omega
theorem decs_inj {a b:Int} (h:decs a=decs b):a=b:=by
 have key:∀ x y:Nat,(45:UInt8) :: digs x≠digs y:=by
  intro x y e
  have:=digs_ge y 45 (by rw [← e];simp)
  exact absurd this (by decide)
 unfold decs at h
 by_cases ha:a < 0
 ·rw [if_pos ha] at h
  by_cases hb:b < 0
  ·rw [if_pos hb] at h
   have e:=congrArg numD (List.cons.inj h).2
   rw [numD_digs,numD_digs] at e
   omega
  ·rw [if_neg hb] at h
   exact absurd h (key _ _)
 ·rw [if_neg ha] at h
  by_cases hb:b < 0
  ·rw [if_pos hb] at h
   exact absurd h.symm (key _ _)
  ·rw [if_neg hb] at h
   have e:=congrArg numD h
   rw [numD_digs,numD_digs] at e
   omega
theorem decs_blank (a:Int):(32:UInt8) ∉ decs a:=by
 intro h
 unfold decs at h
 split at h
 ·rcases List.mem_cons.1 h with h|h
  ·exact absurd h (by decide)
  ·exact absurd (digs_ge _ _ h) (by decide)
 ·exact absurd (digs_ge _ _ h) (by decide)
theorem split_blank:∀ {p q r s:List UInt8},(32:UInt8) ∉ p→(32:UInt8) ∉ q→p ++ 32 :: r=q ++ 32 :: s→p=q∧r=s:=by
 intro p
 induction p with
 | nil =>
  intro q r s _ hq h
  cases q with
  | nil=>exact ⟨rfl,(List.cons.inj h).2⟩
  | cons c q=>exact absurd (by rw [(List.cons.inj h).1];simp) hq
 | cons c p ih =>
  intro q r s hp hq h
  cases q with
  | nil=>exact absurd (by rw [← (List.cons.inj h).1];simp) hp
  | cons d q =>
   obtain ⟨h1,h2⟩:=List.cons.inj h
   obtain ⟨h3,h4⟩:=ih (fun e=>hp (List.mem_cons_of_mem _ e)) (fun e=>hq (List.mem_cons_of_mem _ e)) h2
   exact ⟨by rw [h1,h3],h4⟩
def keyL (vals:List Int):List UInt8:=vals.flatMap fun v=>decs v ++ [32]
theorem keyL_inj:∀ {a b:List Int},keyL a=keyL b→a=b:=by
 intro a
 induction a with
 | nil =>
  intro b h
  cases b with
  | nil=>rfl
  | cons v b=>simp [keyL] at h
 | cons u a ih =>
  intro b h
  cases b with
  | nil=>simp [keyL] at h
  | cons v b =>
   simp only [keyL,List.flatMap_cons,List.append_assoc,List.singleton_append] at h
   obtain ⟨h1,h2⟩:=split_blank (decs_blank u) (decs_blank v) h
   rw [decs_inj h1,ih h2]
theorem keyL_snoc (a:List Int) (v:Int):keyL (a ++ [v])=keyL a ++ (decs v ++ [32]):=by simp [keyL]
theorem decs_len {a:Int} (h0 : -9223372036854775808≤a) (h1:a≤9223372036854775807):(decs a).length≤20:=by
  unfold decs
  split
  · have := digs_len 19 (-a).toNat (by have : (10 : Nat) ^ 19 = 10000000000000000000 := by decide
                                       omega)
    rw [List.length_cons]
    omega
  · have := digs_len 19 a.toNat (by have : (10 : Nat) ^ 19 = 10000000000000000000 := by decide
                                    omega)
    omega
theorem keyL_len:∀ {vals:List Int},(∀ v∈vals,(Lit.int .i64 v).wf=true)→(keyL vals).length≤21 * vals.length:=by
 intro vals
 induction vals with
 | nil=>intro _;simp [keyL]
 | cons v vals ih =>
  intro h
  have hv:=wfi (h v (by simp))
  have h1:=decs_len hv.1 hv.2
  have h2:=ih fun x hx=>h x (by simp [hx])
  simp only [keyL,List.flatMap_cons,List.length_append,List.length_singleton,List.length_cons,List.length_nil] at h2 ⊢
  omega
theorem valsKey_ev (vals:List Int) (hw:∀ v∈vals,(Lit.int .i64 v).wf=true) (hl:vals.length≤1048576):Ev (fun k=>impl_valsKey.f k vals) (byts (keyL vals)):=by
 have main:∀ i,i≤vals.length→Ev (fun k=>impl_valsKey.l0 k (byts (keyL (vals.take i))) vals (vals.length:Int) (i:Int)) (byts (keyL vals)):=by
  refine ev_loop (fun k i=>impl_valsKey.l0 k (byts (keyL (vals.take i))) vals (vals.length:Int) (i:Int)) vals.length _ (fun i hi e=>?_) ?_
  ·have hmem:vals.getD i 0∈vals:=by rw [getD_lt vals i _ hi];exact List.getElem_mem _
   have hv:=wfi (hw _ hmem)
   have h1:=decs_len hv.1 hv.2
   have h2:=keyL_len (vals:=vals.take i) fun x hx=>hw x (List.mem_of_mem_take hx)
   rw [List.length_take] at h2
   refine ev_succ ?_
   simp only [impl_valsKey.l0,if_pos (show (i:Int) < (vals.length:Int) by omega),if_pos (show 0≤(i:Int) by omega),rd_nat]
   refine ev_bind (ev_ge 21 fun k hk=>impl_decimal_eq (vals.getD i 0) hv.1 hv.2 k (by omega)) ?_
   simp only [byts_size,if_pos (show (keyL (vals.take i)).length + (decs (vals.getD i 0)).length≤9223372036854775807 by omega),if_pos (show (keyL (vals.take i)).length + (decs (vals.getD i 0)).length + 1≤9223372036854775807 by omega),w64s i (show i < 4611686018427387904 by omega)]
   rw [take_succ_getD vals i 0 hi,keyL_snoc] at e
   rw [byts_append,show (⟨#[32]⟩:ByteArray)=byts [32] from rfl,byts_append,List.append_assoc]
   exact e
  ·refine ev_succ ?_
   simp only [impl_valsKey.l0,if_neg (show ¬ (vals.length:Int) < (vals.length:Int) by omega),List.take_length]
   exact ev_some _
 exact main 0 (by omega)
def flags (s:ByteArray):List Bool:=s.data.toList.map fun c=>c == 49
theorem flags_ones (l:List Bool):flags (ones l)=l:=by
 unfold flags
 simp only [ones,List.map_map]
 exact (List.map_congr_left (fun b _=>by cases b <;> rfl)).trans (List.map_id l)
theorem range_getD (l:List Bool) (f:Bool→Bool):(List.range l.length).map (fun i=>f (l.getD i false))=l.map f:=by
 apply List.ext_getElem
 ·simp
 ·intro i h1 h2
  simp only [List.getElem_map,List.getElem_range]
  rw [getD_lt l i false (by simpa using h1)]
theorem ones_data (l:List Bool):(ones l).data.toList=l.map fun b=>if b then (49:UInt8) else 48:=by simp [ones]
theorem contains1 (l:List Bool):(ones l).data.toList.contains 49=l.contains true:=by
 rw [ones_data]
 induction l with
 | nil=>rfl
 | cons b l ih =>
  rw [List.map_cons,List.contains_cons,List.contains_cons,ih]
  congr 1
  cases b <;> rfl
theorem contains0 (l:List Bool):(ones l).data.toList.contains 48=l.contains false:=by
 rw [ones_data]
 induction l with
 | nil=>rfl
 | cons b l ih =>
  rw [List.map_cons,List.contains_cons,List.contains_cons,ih]
  congr 1
  cases b <;> rfl
def knownT (N:Int) (s:ByteArray):Int:=if tok N s then (if (flags s).contains true then (if (flags s).contains false then -1 else 1) else 0) else -1
theorem all_cont (t:List Bool) (b:Bool):(t.all fun x=>x == b) = !t.contains (!b):=by
 induction t with
 | nil=>rfl
 | cons x t ih =>
  rw [List.all_cons,ih,List.contains_cons]
  cases x <;> cases b <;> simp
theorem range_all_getD (t:List Bool) (b:Bool):((List.range t.length).all fun i=>t.getD i false == b)=t.all fun x=>x == b:=by
 have h:=congrArg (fun m:List Bool=>m.all id) (range_getD t (fun x=>x == b))
 simpa [List.all_map,Function.comp_def] using h
theorem impl_Table_known_eq (N:Int) (l:List Bool):impl_Table_known.f N (ones l)=some (if l.contains true then (if l.contains false then -1 else 1) else 0):=by
 unfold impl_Table_known.f
 rw [show strings_Contains.f (ones l) ⟨#[49]⟩=some ((ones l).data.toList.contains 49) from rfl,show strings_Contains.f (ones l) ⟨#[48]⟩=some ((ones l).data.toList.contains 48) from rfl,contains1,contains0]
 have hb:∀ b,impl_bit.f b=some (if b then 1 else 0):=fun b=>by cases b <;> rfl
 simp only [Option.bind_some,hb]
 cases l.contains true <;> cases l.contains false <;> rfl
theorem spec_Known_eq (N:Int) (s:ByteArray) (hs:s.size≤1099511627776):∀ k,s.size + 20 < k→spec_Known.f k N s=some (knownT N s):=by
 intro k hk
 unfold spec_Known.f knownT
 rw [spec_TableOk_eq N s hs k hk,Option.bind_some]
 cases ht:tok N s with
 | false=>rfl
 | true =>
  obtain ⟨n,l,rfl,hn,hl,rfl⟩:=tok_form ht
  have hp:=pow12 hn
  have hpos:0 < 2 ^ n:=Nat.two_pow_pos n
  rw [if_pos rfl,if_pos rfl,flags_ones]
  cases l with
  | nil=>simp at hl;omega
  | cons b t =>
   simp only [List.length_cons] at hl
   have h:=rounds_all (fun k i=>spec_Known.l0 k ((i + 1:Nat):Int) (n:Int) (ones (b :: t))) t.length (fun i=>t.getD i false == b) (if b then 1 else 0) (-1) ?_ ?_ ?_ k (by rw [ones_size] at hk;simp at hk;omega)
   ·refine h.trans ?_
    rw [range_all_getD,all_cont]
    cases b <;> cases h1:t.contains true <;> cases h2:t.contains false <;> simp_all
   all_goals simp only [spec_Known.l0]
   ·intro k i hi hpi
    rw [if_pos (by rw [ones_size,List.length_cons];omega),if_pos (by omega),if_pos (by rw [ones_size,List.length_cons];omega),bt_ones _ (i + 1) (by simp;omega),show (0:Int)=((0:Nat):Int) from rfl,bt_ones _ 0 (by simp),if_pos (by simpa using congrArg sgn (beq_iff_eq.1 hpi)),w64s (i + 1) (by omega)]
   ·intro k i hi hpi
    rw [if_pos (by rw [ones_size,List.length_cons];omega),if_pos (by omega),if_pos (by rw [ones_size,List.length_cons];omega),bt_ones _ (i + 1) (by simp;omega),show (0:Int)=((0:Nat):Int) from rfl,bt_ones _ 0 (by simp),if_neg ?_]
    simp only [List.getD_cons_succ,List.getD_cons_zero]
    intro e
    have hx:∀ x y:Bool,sgn x=sgn y→x=y:=by decide
    rw [hx _ _ e] at hpi
    simp at hpi
   ·intro k
    rw [if_neg (by rw [ones_size,List.length_cons];omega),if_pos (by rw [ones_size,List.length_cons];omega),show (0:Int)=((0:Nat):Int) from rfl,bt_ones _ 0 (by simp),List.getD_cons_zero]
    cases b <;> decide +kernel
theorem ones_extract (l:List Bool) (a b:Nat):(ones l).extract a b=ones ((l.take b).drop a):=by
 apply data_inj
 rw [ByteArray.data_extract]
 simp only [ones,Array.toList_extract,List.extract_eq_take_drop,List.map_drop,List.map_take]
 rw [List.drop_take]
def halfL (l:List Bool) (h:Bool):List Bool:=if h then l.drop (l.length / 2) else l.take (l.length / 2)
theorem halfL_len {n:Nat} {l:List Bool} (hl:l.length=2 ^ (n + 1)) (h:Bool):(halfL l h).length=2 ^ n:=by
 rw [Nat.pow_succ] at hl
 cases h <;> simp [halfL] <;> omega
def halfT (N:Int) (s:ByteArray) (h:Int):Int × ByteArray × Bool:=if tok N s && (N != 0) && (h == 0 || h == 1) then (N - 1,ones (halfL (flags s) (h == 1)),true) else (0,⟨#[]⟩,false)
theorem impl_half_eq (n:Nat) (l:List Bool) (hn:n≤11) (hl:l.length=2 ^ (n + 1)) (h:Int):impl_Table_half.f ((n + 1:Nat):Int) (ones l) h=some ((n:Int),ones (halfL l (h != 0))):=by
 have hp:=pow12 (n:=n + 1) (by omega)
 unfold impl_Table_half.f
 rw [ones_size,show ((l.length:Nat):Int) / 2=((l.length / 2:Nat):Int) by omega,w64 (n:=((l.length / 2:Nat):Int)) (by omega) (by omega),w64 (n:=((n + 1:Nat):Int) - 1) (by omega) (by omega),show ((n + 1:Nat):Int) - 1=(n:Int) by omega,Int.toNat_natCast]
 by_cases h0:h=0
 ·rw [if_pos h0,if_pos (by omega),if_pos (by omega),ones_extract,h0]
  rfl
 ·have e:(h != 0)=true:=bne_iff_ne.2 h0
  rw [if_neg h0,if_pos (by omega),if_pos (by omega),ones_extract,List.take_of_length_le (by omega),e]
  rfl
theorem spec_Half_eq (N:Int) (s:ByteArray) (h:Int) (hs:s.size≤1099511627776):∀ k,s.size + 20 < k→spec_Half.f k N s h=some (halfT N s h):=by
 intro k hk
 unfold spec_Half.f halfT
 rw [spec_TableOk_eq N s hs k hk,Option.bind_some]
 cases ht:tok N s with
 | false=>rfl
 | true =>
  obtain ⟨n,l,rfl,hn,hl,rfl⟩:=tok_form ht
  have hp:=pow12 hn
  rw [if_pos rfl]
  by_cases h0:(n:Int)=0
  ·rw [if_pos h0,h0]
   rfl
  ·have e0:((n:Int) != 0)=true:=bne_iff_ne.2 h0
   rw [if_neg h0,e0]
   unfold spec_l01In.f
   by_cases h1:h=0∨h=1
   ·obtain ⟨m,rfl⟩:∃ m,n=m + 1:=⟨n - 1,by omega⟩
    have hl2:l.length=2 * 2 ^ m:=by rw [hl,Nat.pow_succ,Nat.mul_comm]
    have hhalf:l.length / 2=2 ^ m:=by omega
    rw [if_pos (by omega),Option.bind_some,if_pos (by simp;omega),ones_size,show ((l.length:Nat):Int) / 2=((l.length / 2:Nat):Int) by omega,w64 (n:=((l.length / 2:Nat):Int)) (by omega) (by omega),w64 (n:=((m + 1:Nat):Int) - 1) (by omega) (by omega)]
    rcases h1 with h1|h1
    ·subst h1
     rw [Int.zero_mul,w64 (n:=0) (by omega) (by omega),Int.zero_add,w64 (n:=((l.length / 2:Nat):Int)) (by omega) (by omega),if_pos (by omega),if_pos (by omega),if_pos (by omega),Int.toNat_natCast,show (0:Int).toNat=0 from rfl,ones_extract,flags_ones]
     rfl
    ·subst h1
     rw [Int.one_mul,w64 (n:=((l.length / 2:Nat):Int)) (by omega) (by omega),w64 (n:=((l.length / 2:Nat):Int) + ((l.length / 2:Nat):Int)) (by omega) (by omega),if_pos (by omega),if_pos (by omega),if_pos (by omega),Int.toNat_natCast,show (((l.length / 2:Nat):Int) + ((l.length / 2:Nat):Int)).toNat=l.length by omega,ones_extract,flags_ones,List.take_length]
     rfl
   ·have e:(h == 0 || h == 1)=false:=by simp;omega
    rw [e]
    by_cases h2:h ≥ 0
    ·rw [if_pos h2,Option.bind_some,if_neg (by simp;omega)]
     rfl
    ·rw [if_neg h2,Option.bind_some,if_neg (by decide)]
     rfl
def dec:List Bool→List Bool→Bool
 | [],l=>l.getD 0 false
 | a :: r,l=>if a then dec r (halfL l false) && dec r (halfL l true) else dec r (halfL l false) || dec r (halfL l true)
theorem dec_const (b:Bool):∀ (r l:List Bool),l.length=2 ^ r.length→l.contains (!b)=false→dec r l=b:=by
 intro r
 induction r with
 | nil =>
  intro l hl hc
  match l,hl with
  | [x],_=>cases b <;> cases x <;> simp_all [dec]
 | cons a r ih =>
  intro l hl hc
  have hsub:∀ h,(halfL l h).contains (!b)=false:=by
   intro h
   rw [← Bool.not_eq_true,List.contains_iff_mem] at hc ⊢
   intro hm
   apply hc
   cases h
   ·exact List.mem_of_mem_take hm
   ·exact List.mem_of_mem_drop hm
  simp only [dec]
  rw [ih _ (halfL_len (by simpa using hl) false) (hsub false),ih _ (halfL_len (by simpa using hl) true) (hsub true)]
  cases a <;> cases b <;> rfl
def b01 (b:Bool):Int:=if b then 1 else 0
theorem impl_decide_eq:∀ (r l:List Bool),r.length≤12→l.length=2 ^ r.length→∀ k,r.length + 1 < k→impl_decide.f k r (r.length:Int) (ones l)=some (b01 (dec r l)):=by
 intro r
 induction r with
 | nil =>
  intro l _ hl k hk
  obtain ⟨k,rfl⟩:∃ m,k=m + 1:=⟨k - 1,by omega⟩
  simp only [impl_decide.f]
  match l,hl with
  | [x],_ =>
   rw [impl_Table_known_eq,Option.bind_some]
   cases x <;> rfl
 | cons a r ih =>
  intro l hr hl k hk
  obtain ⟨k,rfl⟩:∃ m,k=m + 1:=⟨k - 1,by omega⟩
  simp only [List.length_cons] at hr hl hk
  simp only [impl_decide.f]
  rw [impl_Table_known_eq,Option.bind_some]
  cases h1:l.contains true
  ·rw [show (if false=true then (if l.contains false=true then (-1:Int) else 1) else 0)=0 from rfl,if_pos (by decide),dec_const false (a :: r) l hl (by simpa using h1)]
   rfl
  ·cases h0:l.contains false
   ·rw [show (if true=true then (if false=true then (-1:Int) else 1) else 0)=1 from rfl,if_pos (by decide),dec_const true (a :: r) l hl (by simpa using h0)]
    rfl
   ·rw [show (if true=true then (if true=true then (-1:Int) else 1) else 0) = -1 from rfl,if_neg (by decide),List.length_cons,if_pos (by omega),impl_half_eq r.length l (by omega) hl 0,Option.bind_some,impl_half_eq r.length l (by omega) hl 1]
    simp only [Option.bind_some,List.drop_one,List.tail_cons]
    rw [ih _ (by omega) (halfL_len hl _) k (by omega),ih _ (by omega) (halfL_len hl _) k (by omega)]
    simp only [Option.bind_some]
    rw [if_pos (by omega),show rdOf false (a :: r) 0=a from rfl]
    simp only [dec]
    have e0:((0:Int) != 0)=false:=rfl
    have e1:((1:Int) != 0)=true:=rfl
    rw [e0,e1]
    cases a <;> cases dec r (halfL l false) <;> cases dec r (halfL l true) <;> rfl
theorem spec_decide_eq:∀ (r l:List Bool),r.length≤12→l.length=2 ^ r.length→∀ k,r.length + 4200 < k→spec_l08Decide.f k r (r.length:Int) (ones l)=some (b01 (dec r l)):=by
 intro r
 induction r with
 | nil =>
  intro l _ hl k hk
  obtain ⟨k,rfl⟩:∃ m,k=m + 1:=⟨k - 1,by omega⟩
  simp only [spec_l08Decide.f]
  match l,hl with
  | [x],_ =>
   rw [if_pos (show ((([]:List Bool).length:Nat):Int)=0 from rfl),if_pos (by rw [ones_size];simp),show bt (ones [x]) 0=sgn x from bt_ones [x] 0 (by simp)]
   cases x <;> decide +kernel
 | cons a r ih =>
  intro l hr hl k hk
  obtain ⟨k,rfl⟩:∃ m,k=m + 1:=⟨k - 1,by omega⟩
  simp only [List.length_cons] at hr hl hk
  have hp:=pow12 (n:=r.length + 1) (by omega)
  have ht:tok ((r.length + 1:Nat):Int) (ones l)=true:=tok_ones (by omega) hl
  have h0:(((r.length + 1:Nat):Int) != 0)=true:=by rw [bne_iff_ne];omega
  have hh:∀ h:Int,(h=0∨h=1)→halfT ((r.length + 1:Nat):Int) (ones l) h=((r.length:Int),ones (halfL l (h == 1)),true):=by
   intro h hh
   unfold halfT
   rw [ht,h0,show (h == 0 || h == 1)=true from by simpa using hh,if_pos (by decide),flags_ones,show ((r.length + 1:Nat):Int) - 1=(r.length:Int) by omega]
  simp only [spec_l08Decide.f,List.length_cons]
  rw [if_neg (by omega),spec_Half_eq _ _ 0 (by rw [ones_size];omega) k (by rw [ones_size];omega),spec_Half_eq _ _ 1 (by rw [ones_size];omega) k (by rw [ones_size];omega),hh 0 (.inl rfl),hh 1 (.inr rfl)]
  simp only [Option.bind_some,List.drop_one,List.tail_cons]
  rw [if_pos (by omega),ih _ (by omega) (halfL_len hl _) k (by omega),ih _ (by omega) (halfL_len hl _) k (by omega)]
  simp only [Option.bind_some]
  rw [if_pos (by omega),show rdOf false (a :: r) 0=a from rfl]
  simp only [dec]
  have e0:((0:Int) == 1)=false:=rfl
  have e1:((1:Int) == 1)=true:=rfl
  rw [e0,e1]
  have key:∀ a b c:Bool,(if a=true then some (Go.bits .and .i64 (b01 b) (b01 c)) else some (Go.bits .or .i64 (b01 b) (b01 c)))=some (b01 (if a=true then b && c else b || c)):=by decide +kernel
  exact key a _ _
def decT (r:List Bool) (N:Int) (s:ByteArray):Int × Bool:=if tok N s && ((r.length:Int) == N) then (b01 (dec r (flags s)),true) else (0,false)
theorem impl_Decide_eq (r:List Bool) (N:Int) (s:ByteArray) (hs:s.size≤1099511627776):∀ k,s.size + 40 < k→impl_Decide.f k r N s=some (decT r N s):=by
 intro k hk
 unfold impl_Decide.f impl_rowed.f decT
 rw [impl_TableOk_eq N s hs k (by omega),Option.bind_some]
 cases ht:tok N s with
 | false=>rfl
 | true =>
  obtain ⟨n,l,rfl,hn,hl,rfl⟩:=tok_form ht
  rw [if_pos rfl,Option.bind_some,flags_ones,Bool.true_and]
  by_cases hr:(r.length:Int)=(n:Int)
  ·have hr2:r.length=n:=by omega
   subst hr2
   rw [if_pos (by simp),if_pos (by simp),impl_decide_eq r l hn hl k (by omega)]
   rfl
  ·rw [if_neg (by simpa using hr),if_neg (by simpa using hr)]
theorem spec_Decide_eq (r:List Bool) (N:Int) (s:ByteArray) (hs:s.size≤1099511627776):∀ k,s.size + 4300 < k→spec_Decide.f k r N s=some (decT r N s):=by
 intro k hk
 unfold spec_Decide.f spec_l08Ok.f decT
 rw [spec_TableOk_eq N s hs k (by omega),Option.bind_some]
 cases ht:tok N s with
 | false=>rfl
 | true =>
  obtain ⟨n,l,rfl,hn,hl,rfl⟩:=tok_form ht
  rw [if_pos rfl,Option.bind_some,flags_ones,Bool.true_and]
  by_cases hr:(r.length:Int)=(n:Int)
  ·have hr2:r.length=n:=by omega
   subst hr2
   rw [if_pos (by simp),if_pos (by simp),spec_decide_eq r l hn hl k (by omega)]
   rfl
  ·rw [if_neg (by simpa using hr),if_neg (by simpa using hr)]
def choT (r:List Bool) (N:Int) (s:ByteArray):Int × Bool:=if tok N s && ((r.length:Int) == N) && (N != 0) then (b01 (dec (r.drop 1) (halfL (flags s) false) != dec r (flags s)),true) else (0,false)
theorem spec_Choose_eq (r:List Bool) (N:Int) (s:ByteArray) (hs:s.size≤1099511627776):∀ k,s.size + 4300 < k→spec_Choose.f k r N s=some (choT r N s):=by
 intro k hk
 obtain ⟨k,rfl⟩:∃ m,k=m + 1:=⟨k - 1,by omega⟩
 unfold spec_Choose.f spec_l08Ok.f choT
 rw [spec_TableOk_eq N s hs (k + 1) (by omega),Option.bind_some]
 cases ht:tok N s with
 | false=>simp [spec_Choose.j0]
 | true =>
  obtain ⟨n,l,rfl,hn,hl,rfl⟩:=tok_form ht
  have hp:=pow12 hn
  rw [if_pos rfl,Option.bind_some,flags_ones,Bool.true_and]
  by_cases hr:(r.length:Int)=(n:Int)
  ·rw [show ((r.length:Int) == (n:Int))=true from by simpa using hr,if_pos rfl,Bool.true_and]
   simp only [spec_Choose.j0]
   by_cases h0:(n:Int)=0
   ·rw [if_pos (by simpa using h0),if_neg (by simp [h0])]
   ·rw [if_neg (by simpa using h0),if_pos (by simpa using h0)]
    cases r with
    | nil=>simp at hr;omega
    | cons a r =>
     simp only [List.length_cons] at hr
     have hr2:n=r.length + 1:=by omega
     subst hr2
     have e:=spec_decide_eq (a :: r) l hn hl k (by simp;omega)
     simp only [List.length_cons] at e
     have hh:halfT ((r.length + 1:Nat):Int) (ones l) 0=((r.length:Int),ones (halfL l false),true):=by
      unfold halfT
      rw [ht,show (((r.length + 1:Nat):Int) != 0)=true from by rw [bne_iff_ne];omega,if_pos (by decide),flags_ones,show ((r.length + 1:Nat):Int) - 1=(r.length:Int) by omega]
      rfl
     rw [spec_Half_eq _ _ 0 hs k (by omega),Option.bind_some,hh,List.length_cons,if_pos (by omega),e]
     simp only [List.drop_one,List.tail_cons]
     rw [spec_decide_eq r _ (by omega) (halfL_len hl _) k (by omega)]
     generalize dec r (halfL l false)=p
     generalize dec (a :: r) l=q
     cases p <;> cases q <;> rfl
  ·rw [show ((r.length:Int) == (n:Int))=false from by simpa using hr,if_neg (by decide)]
   simp only [spec_Choose.j0]
   rfl
def owner (v:Int) (l:List Bool):List Bool:=if v=0∨v=1 then l.map (fun a=>a == (v == 0)) else []
theorem impl_Owner_eq (v:Int) (l:List Bool) (hl:l.length≤1048576):∀ k,l.length + 1 < k→impl_Owner.f k l v=some (owner v l):=by
 intro k hk
 obtain ⟨k,rfl⟩:∃ m,k=m + 1:=⟨k - 1,by omega⟩
 have loop:v=0∨v=1→impl_Owner.l0 k v [] l (l.length:Int) 0=some (owner v l):=by
  intro hv
  have h:=rounds (fun k i=>impl_Owner.l0 k v ((l.take i).map (fun a=>a == (v == 0))) l (l.length:Int) (i:Int)) l.length (l.map (fun a=>a == (v == 0))) ?_ ?_ k (by omega)
  ·rw [owner,if_pos hv]
   simpa using h
  ·intro k i hi
   simp only [impl_Owner.l0]
   rw [if_pos (by omega),if_pos (by omega),if_pos (by omega),if_pos (by simp;omega),rdOf_nat,w64s i (by omega),take_succ_getD l i false hi,List.map_append]
   rfl
  ·intro k
   simp only [impl_Owner.l0]
   rw [if_neg (by omega),List.take_length]
 unfold impl_Owner.f
 simp only [Option.bind_some,impl_Owner.j0]
 by_cases h0:v=0
 ·rw [if_pos h0,if_neg (by decide)]
  exact loop (.inl h0)
 ·rw [if_neg h0]
  by_cases h1:v=1
  ·rw [if_neg (by simp [h1])]
   exact loop (.inr h1)
  ·rw [if_pos (by simpa using h1),owner,if_neg (by omega)]
end Go.Proofs.Ytlpfmhikahlcoaa.Pure
set_option linter.unusedSimpArgs false
set_option linter.unusedVariables false
namespace Go.Proofs.Ytlpfmhikahlcoaa.Pure
open Go.RowKit Go.Proofs.Ytlpfmhikahlcoaa.G Go.Proofs.Ytlpfmhikahlcoaa.Mp Go.Proofs.YtlpfmhikahlcoaaW.PrintWords Go.Proofs.YtlpfmhikahlcoaaW.PrintLast Go.Proofs.YtlpfmhikahlcoaaW.PrintMore
def firstV:List S108→List Int→Option Int
 | [],_=>none
 | x :: l,vals=>if x.f0=vals then some x.f1 else firstV l vals
theorem firstV_snoc (x:S108) (vals:List Int):∀ l,firstV (l ++ [x]) vals=if (firstV l vals).isSome then firstV l vals else if x.f0=vals then some x.f1 else none:=by
 intro l
 induction l with
 | nil=>rfl
 | cons y l ih =>
  simp only [List.cons_append,firstV]
  split
  ·rfl
  ·exact ih
theorem rdP_nat (L:List S108) (i:Nat):rd_T108 L (i:Int)=L.getD i z108:=by unfold rd_T108;simp
def okP (l:List S108):Prop:=l.length≤1048576∧∀ x∈l,x.f0.length≤1048576∧(∀ v∈x.f0,(Lit.int .i64 v).wf=true)∧(Lit.int .i64 x.f1).wf=true
def mapOk (R:List (ByteArray × Int)) (l:List S108):Prop:=∀ vals,mhas R (byts (keyL vals))=(firstV l vals).isSome∧mget R (byts (keyL vals))=(firstV l vals).getD 0
theorem pk_ev {l:List S108} (hl:okP l):∃ R,Ev (fun k=>pkF k l [] 0) R∧mapOk R l:=by
 have main:∀ d i (L:List (ByteArray × Int)),i + d=l.length→L.length≤i→mapOk L (l.take i)→∃ R,Ev (fun k=>pkF k l L (i:Int)) R∧mapOk R l:=by
  intro d
  induction d with
  | zero =>
   intro i L hi _ hm
   rw [List.take_of_length_le (by omega)] at hm
   refine ⟨L,ev_succ ?_,hm⟩
   simp only [pkF,if_neg (show ¬ (i:Int) < (l.length:Int) by omega)]
   exact ev_some _
  | succ d ih =>
   intro i L hi hL hm
   have hil:i < l.length:=by omega
   have hlen:=hl.1
   have hmem:rd_T108 l (i:Int)∈l:=by rw [rdP_nat,getD_lt l i _ hil];exact List.getElem_mem _
   obtain ⟨h1,h2,h3⟩:=hl.2 _ hmem
   have hk:=keyL_len h2
   have htk:l.take (i + 1)=l.take i ++ [rd_T108 l (i:Int)]:=by rw [rdP_nat,take_succ_getD l i z108 hil]
   have hcond:(byts (keyL (rd_T108 l (i:Int)).f0)).size≤maxLen∧(Lit.int .i64 (rd_T108 l (i:Int)).f1).wf=true∧L.length < maxLen:=by
    unfold maxLen
    rw [byts_size]
    exact ⟨by omega,h3,by omega⟩
   by_cases c:mhas L (byts (keyL (rd_T108 l (i:Int)).f0))=true
   ·obtain ⟨R,e,hR⟩:=ih (i + 1) L (by omega) (by omega) (by
     intro vals
     rw [htk,firstV_snoc]
     obtain ⟨a,b⟩:=hm vals
     by_cases hv:(rd_T108 l (i:Int)).f0=vals
     ·rw [hv] at c
      rw [a] at c
      rw [if_pos c]
      exact ⟨a,b⟩
     ·rw [if_neg hv]
      cases hf:firstV (l.take i) vals with
      | none=>rw [hf] at a b;exact ⟨a,b⟩
      | some z=>rw [hf] at a b;exact ⟨a,b⟩)
    refine ⟨R,ev_succ ?_,hR⟩
    simp only [pkF,if_pos (show (i:Int) < (l.length:Int) by omega),if_pos (show 0≤(i:Int) by omega)]
    refine ev_bind (valsKey_ev _ h2 h1) ?_
    simp only [if_pos hcond,if_pos c,w64s i (show i < 4611686018427387904 by omega)]
    exact e
   ·obtain ⟨R,e,hR⟩:=ih (i + 1) ((byts (keyL (rd_T108 l (i:Int)).f0),(rd_T108 l (i:Int)).f1) :: L) (by omega) (by simp;omega) (by
     intro vals
     rw [htk,firstV_snoc]
     obtain ⟨a,b⟩:=hm vals
     simp only [mhas,mget]
     by_cases hv:(rd_T108 l (i:Int)).f0=vals
     ·rw [hv] at c
      rw [a] at c
      rw [hv,if_pos rfl,if_pos rfl,if_neg c,if_pos rfl]
      exact ⟨rfl,rfl⟩
     ·have hne:¬ byts (keyL (rd_T108 l (i:Int)).f0)=byts (keyL vals):=fun e=>hv (keyL_inj (byts_inj e))
      rw [if_neg hne,if_neg hne,if_neg hv]
      cases hf:firstV (l.take i) vals with
      | none=>rw [hf] at a b;exact ⟨a,b⟩
      | some z=>rw [hf] at a b;exact ⟨a,b⟩)
    refine ⟨R,ev_succ ?_,hR⟩
    simp only [pkF,if_pos (show (i:Int) < (l.length:Int) by omega),if_pos (show 0≤(i:Int) by omega)]
    refine ev_bind (valsKey_ev _ h2 h1) ?_
    simp only [if_pos hcond,if_neg c,w64s i (show i < 4611686018427387904 by omega)]
    exact e
 exact main l.length 0 [] (by omega) (by simp) (fun vals=>⟨rfl,rfl⟩)
theorem same10_ev (a b:List Int) (ha:a.length≤1099511627776):Ev (fun k=>spec_l10Same.f k a b) (decide (a=b)):=by
 unfold spec_l10Same.f
 by_cases h:a.length=b.length
 ·simp only [if_pos (show (a.length:Int)=(b.length:Int) by omega)]
  have main:∀ d i,i + d=a.length→(∀ j,j < i→a.getD j 0=b.getD j 0)→Ev (fun k=>spec_l10Same.l0 k a b (i:Int)) (decide (a=b)):=by
   intro d
   induction d with
   | zero =>
    intro i hi hj
    refine ev_succ ?_
    simp only [spec_l10Same.l0,if_neg (show ¬ (i:Int) < (a.length:Int) by omega)]
    have:a=b:=by
     apply List.ext_getElem h
     intro j h1 h2
     have:=hj j (by omega)
     rw [getD_lt a j _ h1,getD_lt b j _ h2] at this
     exact this
    rw [decide_eq_true this]
    exact ev_some _
   | succ d ih =>
    intro i hi hj
    refine ev_succ ?_
    simp only [spec_l10Same.l0,if_pos (show (i:Int) < (a.length:Int) by omega),if_pos (show 0≤(i:Int) by omega),if_pos (show (i:Int) < (b.length:Int) by omega),rd_nat,w64s i (show i < 4611686018427387904 by omega)]
    by_cases c:a.getD i 0=b.getD i 0
    ·simp only [if_pos c]
     exact ih (i + 1) (by omega) (fun j hj2=>by
      rcases Nat.lt_succ_iff_lt_or_eq.1 hj2 with hj2|rfl
      ·exact hj j hj2
      ·exact c)
    ·simp only [if_neg c]
     rw [decide_eq_false (fun e=>c (by rw [e]))]
     exact ev_some _
  exact main a.length 0 (by omega) (fun j hj=>by omega)
 ·simp only [if_neg (show ¬ (a.length:Int)=(b.length:Int) by omega)]
  rw [decide_eq_false (fun e=>h (by rw [e]))]
  exact ev_some _
def pickV:Option Int→Int
 | none => -1
 | some v=>if v=0∨v=1 then v else -1
theorem find10_ev {l:List S108} (hl:okP l) (vals:List Int):Ev (fun k=>spec_l10Find.f k l vals) (pickV (firstV l vals)):=by
 unfold spec_l10Find.f
 have hlen:=hl.1
 have main:∀ d i,i + d=l.length→Ev (fun k=>spec_l10Find.l0 k l vals (i:Int)) (pickV (firstV (l.drop i) vals)):=by
  intro d
  induction d with
  | zero =>
   intro i hi
   refine ev_succ ?_
   simp only [spec_l10Find.l0,if_neg (show ¬ (i:Int) < (l.length:Int) by omega)]
   rw [List.drop_of_length_le (by omega)]
   exact ev_some _
  | succ d ih =>
   intro i hi
   have hil:i < l.length:=by omega
   have hd:l.drop i=rd_T108 l (i:Int) :: l.drop (i + 1):=by rw [rdP_nat,getD_lt l i _ hil,← List.drop_eq_getElem_cons]
   have hmem:rd_T108 l (i:Int)∈l:=by rw [rdP_nat,getD_lt l i _ hil];exact List.getElem_mem _
   obtain ⟨h1,h2,h3⟩:=hl.2 _ hmem
   refine ev_succ ?_
   simp only [spec_l10Find.l0,if_pos (show (i:Int) < (l.length:Int) by omega),if_pos (show 0≤(i:Int) by omega),w64s i (show i < 4611686018427387904 by omega)]
   refine ev_bind (same10_ev _ vals (by omega)) ?_
   rw [hd]
   simp only [firstV]
   by_cases c:(rd_T108 l (i:Int)).f0=vals
   ·simp only [decide_eq_true c,if_true,if_pos c,pickV,spec_l01In.f]
    generalize (rd_T108 l (i:Int)).f1=z
    by_cases c0:z ≥ 0
    ·simp only [if_pos c0,Option.bind_some]
     by_cases c1:z≤1
     ·simp only [decide_eq_true c1,if_true,if_pos (show z=0∨z=1 by omega)]
      exact ev_some _
     ·simp only [decide_eq_false c1,Bool.false_eq_true,if_false,if_neg (show ¬ (z=0∨z=1) by omega)]
      exact ev_some _
    ·simp only [if_neg c0,Option.bind_some,Bool.false_eq_true,if_false,if_neg (show ¬ (z=0∨z=1) by omega)]
     exact ev_some _
   ·simp only [decide_eq_false c,Bool.false_eq_true,if_false,if_neg c]
    exact ih (i + 1) (by omega)
 exact main l.length 0 (by omega)
def knC (l:List Bool):Int:=if l.contains true then (if l.contains false then -1 else 1) else 0
theorem knC_one {l:List Bool} (h:l.length=1):0≤knC l:=by
 obtain ⟨a,rfl⟩:=List.length_eq_one_iff.1 h
 cases a <;> decide
theorem spec_Known_c {n:Nat} {l:List Bool} (hn:n≤12) (hl:l.length=2 ^ n):Ev (fun k=>spec_Known.f k (n:Int) (ones l)) (knC l):=by
 have hp:=pow12 hn
 have e:=ev_ge _ (spec_Known_eq (n:Int) (ones l) (by rw [ones_size];omega))
 unfold knownT at e
 rw [tok_ones hn hl,flags_ones,if_pos rfl] at e
 exact e
def chkR:List Bool→List Bool→Int→(List Int→Option Int)→List Int→Bool
 | [],l,v,_,_=>knC l == v
 | a :: r,l,v,F,vals=>if 0≤knC l then knC l == v else
  if a == (v == 0) then (if F vals=some 0 then chkR r (halfL l false) v F (vals ++ [0]) else if F vals=some 1 then chkR r (halfL l true) v F (vals ++ [1]) else false)
  else chkR r (halfL l false) v F (vals ++ [0]) && chkR r (halfL l true) v F (vals ++ [1])
theorem spec_chk_ev {ps:List S108} (hps:okP ps) (v:Int):∀ (r l:List Bool) (vals:List Int),r.length≤12→l.length=2 ^ r.length→vals.length + r.length≤12 →
  Ev (fun k=>spec_l10Checks.f k r (r.length:Int) (ones l) v ps vals) (chkR r l v (firstV ps) vals):=by
 intro r
 induction r with
 | nil =>
  intro l vals _ hl _
  refine ev_succ ?_
  simp only [spec_l10Checks.f]
  refine ev_bind (spec_Known_c (n:=0) (by omega) hl) ?_
  simp only [if_pos (show knC l ≥ 0 from knC_one hl)]
  exact ev_some _
 | cons a r ih =>
  intro l vals hr hl hv
  have hr':r.length≤11:=by simpa using hr
  simp only [List.length_cons] at hl hv
  have hp:=pow12 (n:=r.length + 1) (by omega)
  refine ev_succ ?_
  simp only [spec_l10Checks.f,List.length_cons]
  refine ev_bind (spec_Known_c (n:=r.length + 1) (by omega) hl) ?_
  unfold chkR
  by_cases c:0≤knC l
  ·simp only [if_pos (show knC l ≥ 0 from c),if_pos c]
   exact ev_some _
  simp only [if_neg (show ¬ knC l ≥ 0 from c),if_neg c]
  have half:∀ h:Bool,Ev (fun k=>spec_Half.f k ((r.length + 1:Nat):Int) (ones l) (b01 h)) ((r.length:Int),ones (halfL l h),true):=by
   intro h
   have:=ev_ge _ (spec_Half_eq ((r.length + 1:Nat):Int) (ones l) (b01 h) (by rw [ones_size];omega))
   unfold halfT at this
   rw [tok_ones (by omega) hl,flags_ones,if_pos (by cases h <;> simp [b01] <;> omega),show (((r.length + 1:Nat):Int) - 1)=(r.length:Int) by omega,show (b01 h == 1)=h by cases h <;> rfl] at this
   exact this
  refine ev_bind (half false) ?_
  refine ev_bind (half true) ?_
  have hlo:=halfL_len hl false
  have hhi:=halfL_len hl true
  have e0:=ih (halfL l false) (vals ++ [0]) (by omega) hlo (by simp;omega)
  have e1:=ih (halfL l true) (vals ++ [1]) (by omega) hhi (by simp;omega)
  simp only [Option.bind_some,List.length_nil,Nat.zero_add,List.nil_append,if_pos (show vals.length < 17592186044416 by omega),if_pos (show 0 < ((r.length + 1:Nat):Int) by omega),if_pos (show 1≤((r.length + 1:Nat):Int) by omega),List.drop_succ_cons,List.drop_zero,show rdOf false (a :: r) 0=a from rfl]
  by_cases ca:(a == (v == 0))=true
  ·simp only [if_pos ca]
   refine ev_bind (find10_ev hps vals) ?_
   by_cases f0:firstV ps vals=some 0
   ·rw [f0]
    simp only [pickV,if_pos (show (0:Int)=0∨(0:Int)=1 from .inl rfl),if_true]
    exact ev_bind e0 (ev_some _)
   ·by_cases f1:firstV ps vals=some 1
    ·rw [f1]
     simp only [pickV,if_pos (show (1:Int)=0∨(1:Int)=1 from .inr rfl),if_true,if_neg (show ¬ (1:Int)=0 by decide),if_neg (show ¬ some (1:Int)=some 0 by decide)]
     exact ev_bind e1 (ev_some _)
    ·have hpv:pickV (firstV ps vals) = -1:=by
      cases hf:firstV ps vals with
      | none=>rfl
      | some z =>
       rw [hf] at f0 f1
       simp only [pickV]
       rw [if_neg]
       rintro (rfl|rfl)
       ·exact f0 rfl
       ·exact f1 rfl
     rw [hpv]
     simp only [if_neg f0,if_neg f1,if_neg (show ¬ (-1:Int)=0 by decide),if_neg (show ¬ (-1:Int)=1 by decide)]
     exact ev_some _
  ·simp only [if_neg ca]
   refine ev_bind e0 ?_
   cases chkR r (halfL l false) v (firstV ps) (vals ++ [0]) with
   | false=>simp only [Bool.false_eq_true,if_false,Bool.false_and];exact ev_some _
   | true=>simp only [if_true,Bool.true_and];exact ev_bind e1 (ev_some _)
theorem impl_chk_ev {ps:List S108} {R:List (ByteArray × Int)} (hR:mapOk R ps) {v:Int} (rr:List Bool) (hrr:rr.length≤12):∀ (d:Nat) (l:List Bool) (vals:List Int),vals.length + d=rr.length→l.length=2 ^ d→(∀ x∈vals,(Lit.int .i64 x).wf=true) →
  Ev (fun k=>ckF k (rr.map fun a=>a == (v == 0)) R v (d:Int) (ones l) vals) (chkR (rr.drop vals.length) l v (firstV ps) vals):=by
 intro d
 induction d with
 | zero =>
  intro l vals hv hl _
  refine ev_succ ?_
  simp only [ckF,impl_Table_known_eq,Option.bind_some]
  have hk:=knC_one hl
  unfold knC at hk
  simp only [if_pos hk]
  rw [List.drop_of_length_le (by omega)]
  exact ev_some _
 | succ d ih =>
  intro l vals hv hl hw
  have hil:vals.length < rr.length:=by omega
  have hd:rr.drop vals.length=rr.getD vals.length false :: rr.drop (vals.length + 1):=by rw [getD_lt rr _ _ hil,← List.drop_eq_getElem_cons]
  refine ev_succ ?_
  simp only [ckF,impl_Table_known_eq,Option.bind_some]
  rw [hd]
  unfold chkR
  by_cases c:0≤knC l
  ·have c':=c
   unfold knC at c'
   simp only [if_pos c',if_pos c]
   exact ev_some _
  have c':=c
  unfold knC at c'
  simp only [if_neg c',if_neg c,List.length_map,if_pos hil]
  have hrd:rdOf false (rr.map fun a=>a == (v == 0)) (vals.length:Int)=(rr.getD vals.length false == (v == 0)):=by
   rw [rdOf_nat,List.getD_eq_getElem?_getD,List.getElem?_map,List.getElem?_eq_getElem hil,getD_lt rr _ _ hil]
   rfl
  have hcp:impl_copyInts.f vals=some vals:=by
   unfold impl_copyInts.f
   rw [if_pos (by simp;omega),List.nil_append]
  have e0:=ih (halfL l false) (vals ++ [0]) (by simp;omega) (halfL_len hl false) (fun x hx=>by
   rcases List.mem_append.1 hx with hx|hx
   ·exact hw x hx
   ·rw [List.mem_singleton.1 hx];decide)
  have e1:=ih (halfL l true) (vals ++ [1]) (by simp;omega) (halfL_len hl true) (fun x hx=>by
   rcases List.mem_append.1 hx with hx|hx
   ·exact hw x hx
   ·rw [List.mem_singleton.1 hx];decide)
  rw [List.length_append,List.length_singleton] at e0 e1
  have hh:∀ z:Int,impl_Table_half.f ((d + 1:Nat):Int) (ones l) z=some ((d:Int),ones (halfL l (z != 0))):=fun z=>impl_half_eq d l (by omega) hl z
  simp only [hrd,hh,hcp,Option.bind_some,if_pos (show vals.length < 17592186044416 by omega)]
  cases ca:(rr.getD vals.length false == (v == 0)) with
  | false =>
   simp only [if_true,Bool.false_eq_true,if_false]
   refine ev_bind e0 ?_
   cases chkR (rr.drop (vals.length + 1)) (halfL l false) v (firstV ps) (vals ++ [0]) with
   | false=>simp only [Bool.false_eq_true,if_false,Bool.false_and];exact ev_some _
   | true=>simp only [if_true,Bool.true_and];exact e1
  | true =>
   simp only [Bool.true_eq_false,if_false,if_true]
   have hkl:=keyL_len hw
   refine ev_bind (valsKey_ev vals hw (by omega)) ?_
   obtain ⟨m1,m2⟩:=hR vals
   simp only [byts_size,if_pos (show (keyL vals).length≤maxLen by unfold maxLen;omega),m1,m2]
   cases hf:firstV ps vals with
   | none =>
    simp only [Option.isSome_none,Bool.false_eq_true,false_and,if_false,reduceCtorEq]
    exact ev_some _
   | some z =>
    simp only [Option.isSome_some,true_and,Option.getD_some,Option.some.injEq]
    by_cases z0:z=0
    ·subst z0
     simp only [true_or,if_true]
     exact e0
    ·by_cases z1:z=1
     ·subst z1
      simp only [or_true,if_true,if_neg (show ¬ (1:Int)=0 by decide)]
      exact e1
     ·simp only [if_neg (show ¬ (z=0∨z=1) from fun h=>h.elim z0 z1),if_neg z0,if_neg z1]
      exact ev_some _
def chkT (r:List Bool) (N:Int) (s:ByteArray) (v:Int) (ps:List S108):Bool:=(tok N s && ((r.length:Int) == N)) && (decide (v=0∨v=1) && (decide (ps.length≤5000) && chkR r (flags s) v (firstV ps) []))
theorem spec_Checks_ev (r:List Bool) (N:Int) (s:ByteArray) (v:Int) {ps:List S108} (hs:s.size≤1099511627776) (hps:okP ps):Ev (fun k=>spec_Checks.f k r N s v ps) (chkT r N s v ps):=by
 unfold spec_Checks.f spec_l08Ok.f chkT spec_l01In.f
 have et:=ev_ge _ (spec_TableOk_eq N s hs)
 refine ev_bind (a:=tok N s && ((r.length:Int) == N)) ?_ ?_
 ·refine ev_bind et ?_
  cases tok N s <;> exact ev_some _
 cases hb:tok N s && ((r.length:Int) == N) with
 | false=>simp only [Bool.false_eq_true,if_false,Bool.false_and];exact ev_some _
 | true =>
  simp only [Bool.and_eq_true,beq_iff_eq] at hb
  obtain ⟨n,l,rfl,hn,hl,rfl⟩:=tok_form hb.1
  have hrn:r.length=n:=by omega
  simp only [if_true,Bool.true_and,flags_ones]
  by_cases c0:v ≥ 0
  ·simp only [if_pos c0,Option.bind_some]
   by_cases c1:v≤1
   ·simp only [decide_eq_true c1,if_true,decide_eq_true (show v=0∨v=1 by omega),Bool.true_and]
    by_cases c2:ps.length≤5000
    ·simp only [if_pos (show (ps.length:Int)≤5000 by omega),decide_eq_true c2,Bool.true_and]
     have:=spec_chk_ev hps v r l [] (by omega) (by rw [hrn];exact hl) (by simp;omega)
     rw [hrn] at this
     exact ev_bind this (ev_some _)
    ·simp only [if_neg (show ¬ (ps.length:Int)≤5000 by omega),decide_eq_false c2,Bool.false_and]
     exact ev_some _
   ·simp only [decide_eq_false c1,Bool.false_eq_true,if_false,decide_eq_false (show ¬ (v=0∨v=1) by omega),Bool.false_and]
    exact ev_some _
  ·simp only [if_neg c0,Option.bind_some,Bool.false_eq_true,if_false,decide_eq_false (show ¬ (v=0∨v=1) by omega),Bool.false_and]
   exact ev_some _
theorem impl_Checks_ev (r:List Bool) (N:Int) (s:ByteArray) (v:Int) {ps:List S108} (hs:s.size≤1099511627776) (hps:okP ps):Ev (fun k=>impl_Checks.f k r N s v ps) (chkT r N s v ps):=by
 unfold impl_Checks.f impl_rowed.f chkT
 have et:=ev_ge _ (impl_TableOk_eq N s hs)
 refine ev_bind (a:=tok N s && ((r.length:Int) == N)) ?_ ?_
 ·refine ev_bind et ?_
  cases tok N s <;> exact ev_some _
 cases hb:tok N s && ((r.length:Int) == N) with
 | false=>simp only [Bool.false_eq_true,if_false,Bool.false_and];exact ev_some _
 | true =>
  simp only [Bool.and_eq_true,beq_iff_eq] at hb
  obtain ⟨n,l,rfl,hn,hl,rfl⟩:=tok_form hb.1
  have hrn:r.length=n:=by omega
  simp only [if_true,Bool.true_and,flags_ones]
  by_cases c1:v=0∨v=1
  ·simp only [if_pos c1,decide_eq_true c1,Bool.true_and]
   by_cases c2:ps.length≤5000
   ·simp only [if_neg (show ¬ 5000 < ps.length by omega),decide_eq_true c2,Bool.true_and]
    have eo:=ev_ge _ (impl_Owner_eq v r (by omega))
    unfold owner at eo
    rw [if_pos c1] at eo
    refine ev_bind eo ?_
    obtain ⟨R,eR,hR⟩:=pk_ev hps
    refine ev_bind eR ?_
    exact impl_chk_ev hR r (by omega) n l [] (by simp;omega) hl (fun x hx=>by cases hx)
   ·simp only [if_pos (show 5000 < ps.length by omega),decide_eq_false c2,Bool.false_and]
    exact ev_some _
  ·simp only [if_neg c1,decide_eq_false c1,Bool.false_and]
   exact ev_some _
def winR (v:Int):List Bool→List Bool→List Int→List S108
 | [],_,_=>[]
 | a :: r,l,vals=>if 0≤knC l then [] else if (a == (v == 0))=true then
   ⟨vals,b01 (dec r (halfL l false) != dec (a :: r) l)⟩ :: winR v r (halfL l (dec r (halfL l false) != dec (a :: r) l)) (vals ++ [b01 (dec r (halfL l false) != dec (a :: r) l)])
  else winR v r (halfL l false) (vals ++ [0]) ++ winR v r (halfL l true) (vals ++ [1])
theorem knC_dec {r l:List Bool} (hl:l.length=2 ^ r.length) (h:0≤knC l):knC l=b01 (dec r l):=by
 unfold knC at h ⊢
 by_cases h1:l.contains true=true
 ·rw [if_pos h1] at h ⊢
  by_cases h0:l.contains false=true
  ·rw [if_pos h0] at h
   omega
  ·rw [if_neg h0,dec_const true r l hl (by simpa using h0)]
   rfl
 ·rw [if_neg h1,dec_const false r l hl (by simpa using h1)]
  rfl
theorem firstV_app (k:List Int) (b:List S108):∀ a:List S108,firstV (a ++ b) k=(firstV a k).or (firstV b k):=by
 intro a
 induction a with
 | nil=>simp [firstV]
 | cons x a ih =>
  simp only [List.cons_append,firstV]
  split
  ·rfl
  ·exact ih
theorem firstV_none (v:Int) (k:List Int):∀ r l vals,¬ vals <+: k→firstV (winR v r l vals) k=none:=by
 intro r
 induction r with
 | nil=>intro l vals _;rfl
 | cons a r ih =>
  intro l vals h
  have hx:∀ x:Int,¬ (vals ++ [x]) <+: k:=fun x hp=>h ((List.prefix_append vals [x]).trans hp)
  unfold winR
  split
  ·rfl
  ·split
   ·simp only [firstV]
    rw [if_neg (fun e:vals=k=>h (by rw [← e];exact List.prefix_refl vals))]
    exact ih _ _ (hx _)
   ·rw [firstV_app,ih _ _ (hx 0),Option.none_or]
    exact ih _ _ (hx 1)
theorem pre_ne {vals k:List Int} {x:Int} (h:(vals ++ [x]) <+: k):vals≠k:=by
 rintro rfl
 have:=h.length_le
 simp only [List.length_append,List.length_cons,List.length_nil] at this
 omega
theorem pre_two {vals k:List Int} {x y:Int} (h:(vals ++ [x]) <+: k) (hxy:x≠y):¬ (vals ++ [y]) <+: k:=by
 rintro h2
 obtain ⟨s,rfl⟩:=h
 obtain ⟨t,e⟩:=h2
 rw [List.append_assoc,List.append_assoc] at e
 have:=List.append_cancel_left e
 simp at this
 exact hxy this.1.symm
theorem pre_base {vals k:List Int} {x:Int} (h:(vals ++ [x]) <+: k):vals <+: k:=(List.prefix_append vals [x]).trans h
theorem dec_pick {a:Bool} {r l:List Bool} {v:Int} (hv:v=0∨v=1) (ho:(a == (v == 0))=true) (hd:dec (a :: r) l=(v == 1)):dec r (halfL l (dec r (halfL l false) != dec (a :: r) l))=(v == 1):=by
 rw [hd]
 simp only [dec] at hd
 generalize hlo:dec r (halfL l false)=lo at hd ⊢
 generalize hhi:dec r (halfL l true)=hi at hd
 rcases hv with rfl|rfl <;> cases a <;> cases lo <;> cases hi <;> simp_all
theorem dec_both {a:Bool} {r l:List Bool} {v:Int} (hv:v=0∨v=1) (ho:(a == (v == 0))=false) (hd:dec (a :: r) l=(v == 1)):dec r (halfL l false)=(v == 1)∧dec r (halfL l true)=(v == 1):=by
 simp only [dec] at hd
 generalize hlo:dec r (halfL l false)=lo at hd ⊢
 generalize hhi:dec r (halfL l true)=hi at hd ⊢
 rcases hv with rfl|rfl <;> cases a <;> cases lo <;> cases hi <;> simp_all
theorem b01_v {v:Int} (hv:v=0∨v=1):b01 (v == 1)=v:=by rcases hv with rfl|rfl <;> rfl
theorem win_chk {v:Int} (hv:v=0∨v=1) (F:List Int→Option Int):∀ (r l:List Bool) (vals:List Int),l.length=2 ^ r.length→dec r l=(v == 1)→(∀ k,vals <+: k→F k=firstV (winR v r l vals) k)→chkR r l v F vals=true:=by
 intro r
 induction r with
 | nil =>
  intro l vals hl hd _
  unfold chkR
  rw [knC_dec hl (knC_one hl),hd,b01_v hv]
  exact beq_iff_eq.2 rfl
 | cons a r ih =>
  intro l vals hl hd hF
  unfold chkR
  have hh:=halfL_len (n:=r.length) (by simpa using hl)
  by_cases hk:0≤knC l
  ·rw [if_pos hk,knC_dec hl hk,hd,b01_v hv]
   exact beq_iff_eq.2 rfl
  rw [if_neg hk]
  unfold winR at hF
  simp only [if_neg hk] at hF
  by_cases ho:(a == (v == 0))=true
  ·simp only [if_pos ho] at hF ⊢
   have hp:=dec_pick hv ho hd
   generalize hb:(dec r (halfL l false) != dec (a :: r) l)=b at hF hp
   have h0:F vals=some (b01 b):=by
    rw [hF vals (List.prefix_refl _)]
    simp only [firstV,if_true]
   have hF2:∀ k,(vals ++ [b01 b]) <+: k→F k=firstV (winR v r (halfL l b) (vals ++ [b01 b])) k:=fun k hk=>by
    rw [hF k (pre_base hk)]
    simp only [firstV]
    rw [if_neg (pre_ne hk)]
   have hc:=ih (halfL l b) (vals ++ [b01 b]) (hh b) hp hF2
   rw [h0]
   cases b with
   | false =>
    rw [if_pos (show some (b01 false)=some (0:Int) from rfl)]
    exact hc
   | true =>
    rw [if_neg (by decide),if_pos (show some (b01 true)=some (1:Int) from rfl)]
    exact hc
  ·simp only [if_neg ho] at hF ⊢
   have hb:=dec_both hv (by simpa using ho) hd
   have h0:=ih (halfL l false) (vals ++ [0]) (hh false) hb.1 (fun k hk=>by
    rw [hF k (pre_base hk),firstV_app,firstV_none v k r (halfL l true) _ (pre_two hk (show (0:Int)≠1 by decide)),Option.or_none])
   have h1:=ih (halfL l true) (vals ++ [1]) (hh true) hb.2 (fun k hk=>by
    rw [hF k (pre_base hk),firstV_app,firstV_none v k r (halfL l false) _ (pre_two hk (show (1:Int)≠0 by decide)),Option.none_or])
   rw [h0,h1]
   rfl
theorem chk_dec {v:Int} (hv:v=0∨v=1) (F:List Int→Option Int):∀ (r l:List Bool) (vals:List Int),l.length=2 ^ r.length→chkR r l v F vals=true→dec r l=(v == 1):=by
 have one:∀ {r l:List Bool},l.length=2 ^ r.length→0≤knC l→(knC l == v)=true→dec r l=(v == 1):=fun {r l} hl hk h=>by
  rw [knC_dec hl hk] at h
  have:=beq_iff_eq.1 h
  cases hd:dec r l <;> rw [hd] at this <;> rcases hv with rfl|rfl <;> first|rfl|(simp [b01] at this)
 intro r
 induction r with
 | nil =>
  intro l vals hl h
  unfold chkR at h
  exact one hl (knC_one hl) h
 | cons a r ih =>
  intro l vals hl h
  unfold chkR at h
  have hh:=halfL_len (n:=r.length) (by simpa using hl)
  by_cases hk:0≤knC l
  ·rw [if_pos hk] at h
   exact one hl hk h
  rw [if_neg hk] at h
  simp only [dec]
  by_cases ho:(a == (v == 0))=true
  ·rw [if_pos ho] at h
   split at h
   ·have:=ih _ _ (hh false) h
    rw [this]
    rcases hv with rfl|rfl <;> cases a <;> simp_all
   ·split at h
    ·have:=ih _ _ (hh true) h
     rw [this]
     rcases hv with rfl|rfl <;> cases a <;> simp_all
    ·cases h
  ·rw [if_neg ho,Bool.and_eq_true] at h
   have h0:=ih _ _ (hh false) h.1
   have h1:=ih _ _ (hh true) h.2
   rw [h0,h1]
   cases a <;> simp
theorem win_small (v:Int):∀ (r l:List Bool) (vals:List Int),r.length + vals.length≤12→(∀ z∈vals,z=0∨z=1)→(winR v r l vals).length < 2 ^ r.length∧∀ x∈winR v r l vals,x.f0.length≤12∧(∀ z∈x.f0,z=0∨z=1)∧(x.f1=0∨x.f1=1):=by
 have bb:∀ b:Bool,b01 b=0∨b01 b=1:=fun b=>by cases b <;> simp [b01]
 intro r
 induction r with
 | nil=>intro l vals _ _;exact ⟨by simp [winR],fun x hx=>by cases hx⟩
 | cons a r ih =>
  intro l vals hr hz
  simp only [List.length_cons] at hr
  have hp:1≤2 ^ r.length:=Nat.one_le_two_pow
  have e2:2 ^ (a :: r).length=2 ^ r.length + 2 ^ r.length:=by rw [List.length_cons,Nat.pow_succ];omega
  have hz2:∀ y:Int,(y=0∨y=1)→∀ z∈vals ++ [y],z=0∨z=1:=fun y hy z h=>by
   rcases List.mem_append.1 h with h|h
   ·exact hz z h
   ·rw [List.mem_singleton.1 h];exact hy
  rw [e2]
  unfold winR
  split
  ·exact ⟨by simp;omega,fun x hx=>by cases hx⟩
  ·split
   ·obtain ⟨h1,h2⟩:=ih (halfL l (dec r (halfL l false) != dec (a :: r) l)) (vals ++ [b01 (dec r (halfL l false) != dec (a :: r) l)]) (by simp;omega) (hz2 _ (bb _))
    refine ⟨by rw [List.length_cons];omega,fun x hx=>?_⟩
    rcases List.mem_cons.1 hx with rfl|hx
    ·exact ⟨by show vals.length≤12;omega,hz,bb _⟩
    ·exact h2 x hx
   ·obtain ⟨h1,h2⟩:=ih (halfL l false) (vals ++ [0]) (by simp;omega) (hz2 0 (Or.inl rfl))
    obtain ⟨h3,h4⟩:=ih (halfL l true) (vals ++ [1]) (by simp;omega) (hz2 1 (Or.inr rfl))
    refine ⟨by rw [List.length_append];omega,fun x hx=>?_⟩
    rcases List.mem_append.1 hx with hx|hx
    ·exact h2 x hx
    ·exact h4 x hx
end Go.Proofs.Ytlpfmhikahlcoaa.Pure
