-- texts of this session, merged by a program of it (wip/gen/pack.py)
import Derived.Test.YtlpfmhikahlcoaaKFnExactMachineStep2
import Derived.Test.YtlpfmhikahlcoaaKFnExactMachineStep5
namespace Go.Proofs.Ytlpfmhikahlcoaa.G
open Go.Proofs.Ytlpfmhikahlcoaa.Sh Go.RowKit Go.Proofs.YtlpfmhikahlcoaaW.PrintWords Go.Proofs.YtlpfmhikahlcoaaW.PrintLast Go.Proofs.YtlpfmhikahlcoaaW.PrintMore
attribute [local go_sem] max2_int min2_int max_two min_two max_three min_three max_four min_four
set_option linter.unusedVariables false
set_option linter.unusedSimpArgs false
def laws_eqMachine.f (k:Nat) (A9:List Bool) (Ab:Int) (Ac:ByteArray) (Aj:Int) (Aa:List Int) (Af:Int) (Ae:Bool) (Ag:Int) (Ah:Int) (Ai:Int) (A7:List (S86)) (l1_0:List Bool) (a1_1:Int) (a1_2:ByteArray) (a1_3:Int) (l1_4:List Int) (a1_5:Int) (a1_6:Bool) (a1_7:Int) (a1_8:Int) (a1_9:Int) (l1_10:List (S86)):Option (Bool):=(laws_eqBoolS.f k A9 l1_0).bind fun B1=>(if B1=true then ((laws_eqTable.f Ab Ac a1_1 a1_2).bind fun B0=>(if B0=true then (if Aj=a1_3 then ((laws_eqIntS.f k Aa l1_4).bind fun Ax=>(if Ax=true then (if Af=a1_5 then (if (Ae != a1_6)=true then (some false) else (if Ag=a1_7 then (if Ah=a1_8 then (if Ai=a1_9 then ((laws_eqSeenS.f k A7 l1_10).bind fun Aq=>(if Aq=true then (some true) else (some false))) else (some false)) else (some false)) else (some false))) else (some false)) else (some false))) else (some false)) else (some false))) else (some false))
set_option maxHeartbeats 80000000 in
set_option maxRecDepth 100000 in
theorem laws_eqMachine.calls (k:Nat) (Ak:Option Addr) (Al:Nat) (A9:List Bool) (Ab:Int) (Ac:ByteArray) (Aj:Int) (Ao:Option Addr) (Ap:Nat) (Aa:List Int) (Af:Int) (Ae:Bool) (Ag:Int) (Ah:Int) (Ai:Int) (Am:Option Addr) (An:Nat) (A7:List (S86)) (A1_0:Option Addr) (c1_0:Nat) (l1_0:List Bool) (a1_1:Int) (a1_2:ByteArray) (a1_3:Int) (A1_4:Option Addr) (c1_4:Nat) (l1_4:List Int) (a1_5:Int) (a1_6:Bool) (a1_7:Int) (a1_8:Int) (a1_9:Int) (A1_10:Option Addr) (c1_10:Nat) (l1_10:List (S86)) (r:Bool) (w:World) (hr0_0:Kd.C Kd.bool w Ak A9.length A9) (hc0_0:A9.length≤Al) (hr0_4:Kd.C (Kd.int .i64) w Ao Aa.length Aa) (hc0_4:Aa.length≤Ap) (hr0_10:Kd.C k86 w Am A7.length A7) (hc0_10:A7.length≤An) (hr1_0:Kd.C Kd.bool w A1_0 l1_0.length l1_0) (hc1_0:l1_0.length≤c1_0) (hr1_4:Kd.C (Kd.int .i64) w A1_4 l1_4.length l1_4) (hc1_4:l1_4.length≤c1_4) (hr1_10:Kd.C k86 w A1_10 l1_10.length l1_10) (hc1_10:l1_10.length≤c1_10) (h:laws_eqMachine.f k A9 Ab Ac Aj Aa Af Ae Ag Ah Ai A7 l1_0 a1_1 a1_2 a1_3 l1_4 a1_5 a1_6 a1_7 a1_8 a1_9 l1_10=some r) :
  Calls Try.prog 25 #[.agg #[.slice Ak A9.length Al,.int .i64 Ab,.string Ac,.int .i64 Aj,.slice Ao Aa.length Ap,.int .i64 Af,.bool Ae,.int .i64 Ag,.int .i64 Ah,.int .i64 Ai,.slice Am A7.length An],.agg #[.slice A1_0 l1_0.length c1_0,.int .i64 a1_1,.string a1_2,.int .i64 a1_3,.slice A1_4 l1_4.length c1_4,.int .i64 a1_5,.bool a1_6,.int .i64 a1_7,.int .i64 a1_8,.int .i64 a1_9,.slice A1_10 l1_10.length c1_10]] w fun e w'=>e = .returned (.bool r)∧Below w.heap.size w w':=by
 have hu36:=Try.underlying36;have hu29:=Try.underlying29;have Ar:=Aside0.mk hr0_0;have As:=Aside0.mk hc0_0;clear hr0_0 hc0_0;have Ay:=Aside0.mk hr0_4;have Az:=Aside0.mk hc0_4;clear hr0_4 hc0_4;have B2:=Aside0.mk hr0_10;have B3:=Aside0.mk hc0_10;clear hr0_10 hc0_10;have HR1_0:=Aside0.mk hr1_0;have HC1_0:=Aside0.mk hc1_0;clear hr1_0 hc1_0;have HR1_4:=Aside0.mk hr1_4;have HC1_4:=Aside0.mk hc1_4;clear hr1_4 hc1_4;have HR1_10:=Aside0.mk hr1_10;have HC1_10:=Aside0.mk hc1_10;clear hr1_10 hc1_10;have HB:=Aside0.mk (Below.refl w.heap.size w)
 have H:((laws_eqBoolS.f k A9 l1_0).bind fun B1=>(if B1=true then ((laws_eqTable.f Ab Ac a1_1 a1_2).bind fun B0=>(if B0=true then (if Aj=a1_3 then ((laws_eqIntS.f k Aa l1_4).bind fun Ax=>(if Ax=true then (if Af=a1_5 then (if (Ae != a1_6)=true then (some false) else (if Ag=a1_7 then (if Ah=a1_8 then (if Ai=a1_9 then ((laws_eqSeenS.f k A7 l1_10).bind fun Aq=>(if Aq=true then (some true) else (some false))) else (some false)) else (some false)) else (some false))) else (some false)) else (some false))) else (some false)) else (some false))) else (some false)))=some r:=h
 clear h
 replace H:=Option.bind_eq_some_iff.mp H
 obtain ⟨B1,A30,H⟩:=H
 replace H:(if B1=true then ((laws_eqTable.f Ab Ac a1_1 a1_2).bind fun B0=>(if B0=true then (if Aj=a1_3 then ((laws_eqIntS.f k Aa l1_4).bind fun Ax=>(if Ax=true then (if Af=a1_5 then (if (Ae != a1_6)=true then (some false) else (if Ag=a1_7 then (if Ah=a1_8 then (if Ai=a1_9 then ((laws_eqSeenS.f k A7 l1_10).bind fun Aq=>(if Aq=true then (some true) else (some false))) else (some false)) else (some false)) else (some false))) else (some false)) else (some false))) else (some false)) else (some false))) else (some false))=some r:=H
 have A3:=Aside0.mk A30;clear A30
 by_cases c4:B1=true
 ·subst c4
  have H1:((laws_eqTable.f Ab Ac a1_1 a1_2).bind fun B0=>(if B0=true then (if Aj=a1_3 then ((laws_eqIntS.f k Aa l1_4).bind fun Ax=>(if Ax=true then (if Af=a1_5 then (if (Ae != a1_6)=true then (some false) else (if Ag=a1_7 then (if Ah=a1_8 then (if Ai=a1_9 then ((laws_eqSeenS.f k A7 l1_10).bind fun Aq=>(if Aq=true then (some true) else (some false))) else (some false)) else (some false)) else (some false))) else (some false)) else (some false))) else (some false)) else (some false)))=some r:=by rw [if_pos rfl] at H;exact H
  clear H;have H:=H1;clear H1
  replace H:=Option.bind_eq_some_iff.mp H
  obtain ⟨B0,A50,H⟩:=H
  replace H:(if B0=true then (if Aj=a1_3 then ((laws_eqIntS.f k Aa l1_4).bind fun Ax=>(if Ax=true then (if Af=a1_5 then (if (Ae != a1_6)=true then (some false) else (if Ag=a1_7 then (if Ah=a1_8 then (if Ai=a1_9 then ((laws_eqSeenS.f k A7 l1_10).bind fun Aq=>(if Aq=true then (some true) else (some false))) else (some false)) else (some false)) else (some false))) else (some false)) else (some false))) else (some false)) else (some false))=some r:=H
  have A5:=Aside0.mk A50;clear A50
  by_cases c6:B0=true
  ·subst c6
   have H1:(if Aj=a1_3 then ((laws_eqIntS.f k Aa l1_4).bind fun Ax=>(if Ax=true then (if Af=a1_5 then (if (Ae != a1_6)=true then (some false) else (if Ag=a1_7 then (if Ah=a1_8 then (if Ai=a1_9 then ((laws_eqSeenS.f k A7 l1_10).bind fun Aq=>(if Aq=true then (some true) else (some false))) else (some false)) else (some false)) else (some false))) else (some false)) else (some false))) else (some false))=some r:=by rw [if_pos rfl] at H;exact H
   clear H;have H:=H1;clear H1
   by_cases c7:Aj=a1_3
   ·rw [if_pos c7] at H
    have c7b0:(Aj == a1_3)=true:=beq_iff_eq.mpr c7;have c7b1:(Aj != a1_3)=false:=bne_eq_false_iff_eq.mpr c7;clear c7
    replace H:=Option.bind_eq_some_iff.mp H
    obtain ⟨Ax,A80,H⟩:=H
    replace H:(if Ax=true then (if Af=a1_5 then (if (Ae != a1_6)=true then (some false) else (if Ag=a1_7 then (if Ah=a1_8 then (if Ai=a1_9 then ((laws_eqSeenS.f k A7 l1_10).bind fun Aq=>(if Aq=true then (some true) else (some false))) else (some false)) else (some false)) else (some false))) else (some false)) else (some false))=some r:=H
    have A8:=Aside0.mk A80;clear A80
    by_cases c9:Ax=true
    ·subst c9
     have H1:(if Af=a1_5 then (if (Ae != a1_6)=true then (some false) else (if Ag=a1_7 then (if Ah=a1_8 then (if Ai=a1_9 then ((laws_eqSeenS.f k A7 l1_10).bind fun Aq=>(if Aq=true then (some true) else (some false))) else (some false)) else (some false)) else (some false))) else (some false))=some r:=by rw [if_pos rfl] at H;exact H
     clear H;have H:=H1;clear H1
     by_cases c10:Af=a1_5
     ·rw [if_pos c10] at H
      have c10b0:(Af == a1_5)=true:=beq_iff_eq.mpr c10;have c10b1:(Af != a1_5)=false:=bne_eq_false_iff_eq.mpr c10;clear c10
      by_cases c11:(Ae != a1_6)=true
      ·rw [if_pos c11] at H
       have c11b0:(Ae != a1_6)=true:=c11
       (try (have c11b1:decide (Ae=a1_6)=false:=by simpa using c11))
       (try (have c11b2:(Ae == a1_6)=false:=by simpa using c11))
       (try (have c11b3:¬ (Ae=a1_6):=by simpa using c11))
       clear c11
       obtain rfl:=Option.some.inj H
       go_enter Try.func25,Try.ntmps25
       go_wp2_with (first|((with_reducible refine gate_dst (N:=2) rfl ?_);refine bx (N:=2) (cs:=#[.slice Ak A9.length Al,.int .i64 Ab,.string Ac,.int .i64 Aj,.slice Ao Aa.length Ap,.int .i64 Af,.bool Ae,.int .i64 Ag,.int .i64 Ah,.int .i64 Ai,.slice Am A7.length An]) (t:=36) ?_;intro At hg w12 hbox hb;have A0:=Aside0.mk (hbox);have Au:=bz0 hg HB;have A2:=bz0 hg HB;replace HB:=bs0 HB hb;clear hb hbox hg)|((with_reducible refine gate_dst (N:=3) rfl ?_);refine bx (N:=3) (cs:=#[.slice A1_0 l1_0.length c1_0,.int .i64 a1_1,.string a1_2,.int .i64 a1_3,.slice A1_4 l1_4.length c1_4,.int .i64 a1_5,.bool a1_6,.int .i64 a1_7,.int .i64 a1_8,.int .i64 a1_9,.slice A1_10 l1_10.length c1_10]) (t:=36) ?_;intro Av hg w13 hbox hb;have A1:=Aside0.mk (hbox);have Aw:=bz1 hg HB A2;have Ad:=bz1 hg HB A2;replace HB:=bs1 HB hb A2;have A4:=nl hg A0;have A6:=ng hg A0;replace A0:=bb A0 hb;clear hb hbox hg;have hnb14:=A4.out;have hnc14:=A6.out;have hcz15__:=c11_ A0;have hfz15__:=f_ A0;have hcz16__:=c11_ A1;have hfz16__:=f_ A1)|((with_reducible refine gate_callee (f:=20) rfl ?_);refine goesL_ (some 9) rfl rfl Try.func20 (by kernel_rfl) rfl #[.slice Ak A9.length Al,.slice A1_0 l1_0.length c1_0] rfl ml ?_;(with_reducible refine (laws_eqBoolS.calls k _ _ A9 _ _ l1_0 true _ ?side1 ?side2 ?side3 ?side4 A3.out).mono ?_);(case side1=>exact cw (Kd.C_below Ar.out HB.out));(case side2=>exact As.out);(case side3=>exact cw (Kd.C_below HR1_0.out HB.out));(case side4=>exact HC1_0.out);rintro e w' ⟨rfl,⟨nd,rfl⟩⟩;refine ⟨_,rfl,?_⟩)|((with_reducible refine gate_callee (f:=37) rfl ?_);refine goesL_ (some 15) rfl rfl Try.func37 (by kernel_rfl) rfl #[.agg #[.int .i64 Ab,.string Ac],.agg #[.int .i64 a1_1,.string a1_2]] rfl ml ?_;(with_reducible refine (laws_eqTable.calls Ab Ac a1_1 a1_2 true _ A5.out).mono ?_);rintro e w17 ⟨rfl,hb⟩;refine ⟨_,rfl,?_⟩;replace A0:=bb A0 hb;replace A1:=bb A1 hb;replace HB:=bs2 HB hb A2 Ad;(try clear hb);(try clear hb2);(try clear hk);(try clear hi);have hcz18__:=c11_ A0;have hfz18__:=f_ A0;have hcz19__:=c11_ A1;have hfz19__:=f_ A1)|((with_reducible refine gate_callee (f:=65) rfl ?_);refine goesL_ (some 26) rfl rfl Try.func65 (by kernel_rfl) rfl #[.slice Ao Aa.length Ap,.slice A1_4 l1_4.length c1_4] rfl ml ?_;(with_reducible refine (laws_eqIntS.calls k _ _ Aa _ _ l1_4 true _ ?side1 ?side2 ?side3 ?side4 A8.out).mono ?_);(case side1=>exact cw (Kd.C_below Ay.out HB.out));(case side2=>exact Az.out);(case side3=>exact cw (Kd.C_below HR1_4.out HB.out));(case side4=>exact HC1_4.out);rintro e w' ⟨rfl,⟨nd,rfl⟩⟩;refine ⟨_,rfl,?_⟩))
       go_ret
       exact ⟨er,tb HB⟩
      ·rw [if_neg c11] at H
       have c11b0:(Ae != a1_6)=false:=by simpa using c11
       (try (have c11b1:decide (Ae=a1_6)=true:=by simpa using c11))
       (try (have c11b2:(Ae == a1_6)=true:=by simpa using c11))
       clear c11
       by_cases c20:Ag=a1_7
       ·rw [if_pos c20] at H
        have c20b0:(Ag == a1_7)=true:=beq_iff_eq.mpr c20;have c20b1:(Ag != a1_7)=false:=bne_eq_false_iff_eq.mpr c20;clear c20
        by_cases c21:Ah=a1_8
        ·rw [if_pos c21] at H
         have c21b0:(Ah == a1_8)=true:=beq_iff_eq.mpr c21;have c21b1:(Ah != a1_8)=false:=bne_eq_false_iff_eq.mpr c21;clear c21
         by_cases c22:Ai=a1_9
         ·rw [if_pos c22] at H
          have c22b0:(Ai == a1_9)=true:=beq_iff_eq.mpr c22;have c22b1:(Ai != a1_9)=false:=bne_eq_false_iff_eq.mpr c22;clear c22
          replace H:=Option.bind_eq_some_iff.mp H
          obtain ⟨Aq,A230,H⟩:=H
          replace H:(if Aq=true then (some true) else (some false))=some r:=H
          have A23:=Aside0.mk A230;clear A230
          by_cases c24:Aq=true
          ·subst c24
           have H1:(some true)=some r:=by rw [if_pos rfl] at H;exact H
           clear H;have H:=H1;clear H1
           obtain rfl:=Option.some.inj H
           go_enter Try.func25,Try.ntmps25
           go_wp2_with (first|((with_reducible refine gate_dst (N:=2) rfl ?_);refine bx (N:=2) (cs:=#[.slice Ak A9.length Al,.int .i64 Ab,.string Ac,.int .i64 Aj,.slice Ao Aa.length Ap,.int .i64 Af,.bool Ae,.int .i64 Ag,.int .i64 Ah,.int .i64 Ai,.slice Am A7.length An]) (t:=36) ?_;intro At hg w25 hbox hb;have A0:=Aside0.mk (hbox);have Au:=bz0 hg HB;have A2:=bz0 hg HB;replace HB:=bs0 HB hb;clear hb hbox hg)|((with_reducible refine gate_dst (N:=3) rfl ?_);refine bx (N:=3) (cs:=#[.slice A1_0 l1_0.length c1_0,.int .i64 a1_1,.string a1_2,.int .i64 a1_3,.slice A1_4 l1_4.length c1_4,.int .i64 a1_5,.bool a1_6,.int .i64 a1_7,.int .i64 a1_8,.int .i64 a1_9,.slice A1_10 l1_10.length c1_10]) (t:=36) ?_;intro Av hg w26 hbox hb;have A1:=Aside0.mk (hbox);have Aw:=bz1 hg HB A2;have Ad:=bz1 hg HB A2;replace HB:=bs1 HB hb A2;have A4:=nl hg A0;have A6:=ng hg A0;replace A0:=bb A0 hb;clear hb hbox hg;have hnb27:=A4.out;have hnc27:=A6.out;have hcz28__:=c11_ A0;have hfz28__:=f_ A0;have hcz29__:=c11_ A1;have hfz29__:=f_ A1)|((with_reducible refine gate_callee (f:=20) rfl ?_);refine goesL_ (some 9) rfl rfl Try.func20 (by kernel_rfl) rfl #[.slice Ak A9.length Al,.slice A1_0 l1_0.length c1_0] rfl ml ?_;(with_reducible refine (laws_eqBoolS.calls k _ _ A9 _ _ l1_0 true _ ?side1 ?side2 ?side3 ?side4 A3.out).mono ?_);(case side1=>exact cw (Kd.C_below Ar.out HB.out));(case side2=>exact As.out);(case side3=>exact cw (Kd.C_below HR1_0.out HB.out));(case side4=>exact HC1_0.out);rintro e w' ⟨rfl,⟨nd,rfl⟩⟩;refine ⟨_,rfl,?_⟩)|((with_reducible refine gate_callee (f:=37) rfl ?_);refine goesL_ (some 15) rfl rfl Try.func37 (by kernel_rfl) rfl #[.agg #[.int .i64 Ab,.string Ac],.agg #[.int .i64 a1_1,.string a1_2]] rfl ml ?_;(with_reducible refine (laws_eqTable.calls Ab Ac a1_1 a1_2 true _ A5.out).mono ?_);rintro e w30 ⟨rfl,hb⟩;refine ⟨_,rfl,?_⟩;replace A0:=bb A0 hb;replace A1:=bb A1 hb;replace HB:=bs2 HB hb A2 Ad;(try clear hb);(try clear hb2);(try clear hk);(try clear hi);have hcz31__:=c11_ A0;have hfz31__:=f_ A0;have hcz32__:=c11_ A1;have hfz32__:=f_ A1)|((with_reducible refine gate_callee (f:=65) rfl ?_);refine goesL_ (some 26) rfl rfl Try.func65 (by kernel_rfl) rfl #[.slice Ao Aa.length Ap,.slice A1_4 l1_4.length c1_4] rfl ml ?_;(with_reducible refine (laws_eqIntS.calls k _ _ Aa _ _ l1_4 true _ ?side1 ?side2 ?side3 ?side4 A8.out).mono ?_);(case side1=>exact cw (Kd.C_below Ay.out HB.out));(case side2=>exact Az.out);(case side3=>exact cw (Kd.C_below HR1_4.out HB.out));(case side4=>exact HC1_4.out);rintro e w' ⟨rfl,⟨nd,rfl⟩⟩;refine ⟨_,rfl,?_⟩)|((with_reducible refine gate_callee (f:=66) rfl ?_);refine goesL_ (some 57) rfl rfl Try.func66 (by kernel_rfl) rfl #[.slice Am A7.length An,.slice A1_10 l1_10.length c1_10] rfl ml ?_;(with_reducible refine (laws_eqSeenS.calls k _ _ A7 _ _ l1_10 true _ ?side1 ?side2 ?side3 ?side4 A23.out).mono ?_);(case side1=>repeat (first|exact (Kd.C_below B2.out (tb HB))|(with_reducible refine Kd.C_alloc ?_ _)|(with_reducible refine Kd.C_drewN ?_ _)|(with_reducible refine Kd.C_drew ?_)));(case side2=>exact B3.out);(case side3=>repeat (first|exact (Kd.C_below HR1_10.out (tb HB))|(with_reducible refine Kd.C_alloc ?_ _)|(with_reducible refine Kd.C_drewN ?_ _)|(with_reducible refine Kd.C_drew ?_)));(case side4=>exact HC1_10.out);rintro e w33 ⟨rfl,hb⟩;refine ⟨_,rfl,?_⟩;replace A0:=bb A0 hb;replace A1:=bb A1 hb;replace HB:=bs2 HB hb A2 Ad;(try clear hb);(try clear hb2);(try clear hk);(try clear hi)))
           go_ret
           exact ⟨er,tb HB⟩
          ·replace c24:=Bool.eq_false_iff.mpr c24
           subst c24
           have H1:(some false)=some r:=by rw [if_neg (show ¬ (false=true) by decide)] at H;exact H
           clear H;have H:=H1;clear H1
           obtain rfl:=Option.some.inj H
           go_enter Try.func25,Try.ntmps25
           go_wp2_with (first|((with_reducible refine gate_dst (N:=2) rfl ?_);refine bx (N:=2) (cs:=#[.slice Ak A9.length Al,.int .i64 Ab,.string Ac,.int .i64 Aj,.slice Ao Aa.length Ap,.int .i64 Af,.bool Ae,.int .i64 Ag,.int .i64 Ah,.int .i64 Ai,.slice Am A7.length An]) (t:=36) ?_;intro At hg w34 hbox hb;have A0:=Aside0.mk (hbox);have Au:=bz0 hg HB;have A2:=bz0 hg HB;replace HB:=bs0 HB hb;clear hb hbox hg)|((with_reducible refine gate_dst (N:=3) rfl ?_);refine bx (N:=3) (cs:=#[.slice A1_0 l1_0.length c1_0,.int .i64 a1_1,.string a1_2,.int .i64 a1_3,.slice A1_4 l1_4.length c1_4,.int .i64 a1_5,.bool a1_6,.int .i64 a1_7,.int .i64 a1_8,.int .i64 a1_9,.slice A1_10 l1_10.length c1_10]) (t:=36) ?_;intro Av hg w35 hbox hb;have A1:=Aside0.mk (hbox);have Aw:=bz1 hg HB A2;have Ad:=bz1 hg HB A2;replace HB:=bs1 HB hb A2;have A4:=nl hg A0;have A6:=ng hg A0;replace A0:=bb A0 hb;clear hb hbox hg;have hnb36:=A4.out;have hnc36:=A6.out;have hcz37__:=c11_ A0;have hfz37__:=f_ A0;have hcz38__:=c11_ A1;have hfz38__:=f_ A1)|((with_reducible refine gate_callee (f:=20) rfl ?_);refine goesL_ (some 9) rfl rfl Try.func20 (by kernel_rfl) rfl #[.slice Ak A9.length Al,.slice A1_0 l1_0.length c1_0] rfl ml ?_;(with_reducible refine (laws_eqBoolS.calls k _ _ A9 _ _ l1_0 true _ ?side1 ?side2 ?side3 ?side4 A3.out).mono ?_);(case side1=>exact cw (Kd.C_below Ar.out HB.out));(case side2=>exact As.out);(case side3=>exact cw (Kd.C_below HR1_0.out HB.out));(case side4=>exact HC1_0.out);rintro e w' ⟨rfl,⟨nd,rfl⟩⟩;refine ⟨_,rfl,?_⟩)|((with_reducible refine gate_callee (f:=37) rfl ?_);refine goesL_ (some 15) rfl rfl Try.func37 (by kernel_rfl) rfl #[.agg #[.int .i64 Ab,.string Ac],.agg #[.int .i64 a1_1,.string a1_2]] rfl ml ?_;(with_reducible refine (laws_eqTable.calls Ab Ac a1_1 a1_2 true _ A5.out).mono ?_);rintro e w39 ⟨rfl,hb⟩;refine ⟨_,rfl,?_⟩;replace A0:=bb A0 hb;replace A1:=bb A1 hb;replace HB:=bs2 HB hb A2 Ad;(try clear hb);(try clear hb2);(try clear hk);(try clear hi);have hcz40__:=c11_ A0;have hfz40__:=f_ A0;have hcz41__:=c11_ A1;have hfz41__:=f_ A1)|((with_reducible refine gate_callee (f:=65) rfl ?_);refine goesL_ (some 26) rfl rfl Try.func65 (by kernel_rfl) rfl #[.slice Ao Aa.length Ap,.slice A1_4 l1_4.length c1_4] rfl ml ?_;(with_reducible refine (laws_eqIntS.calls k _ _ Aa _ _ l1_4 true _ ?side1 ?side2 ?side3 ?side4 A8.out).mono ?_);(case side1=>exact cw (Kd.C_below Ay.out HB.out));(case side2=>exact Az.out);(case side3=>exact cw (Kd.C_below HR1_4.out HB.out));(case side4=>exact HC1_4.out);rintro e w' ⟨rfl,⟨nd,rfl⟩⟩;refine ⟨_,rfl,?_⟩)|((with_reducible refine gate_callee (f:=66) rfl ?_);refine goesL_ (some 57) rfl rfl Try.func66 (by kernel_rfl) rfl #[.slice Am A7.length An,.slice A1_10 l1_10.length c1_10] rfl ml ?_;(with_reducible refine (laws_eqSeenS.calls k _ _ A7 _ _ l1_10 false _ ?side1 ?side2 ?side3 ?side4 A23.out).mono ?_);(case side1=>repeat (first|exact (Kd.C_below B2.out (tb HB))|(with_reducible refine Kd.C_alloc ?_ _)|(with_reducible refine Kd.C_drewN ?_ _)|(with_reducible refine Kd.C_drew ?_)));(case side2=>exact B3.out);(case side3=>repeat (first|exact (Kd.C_below HR1_10.out (tb HB))|(with_reducible refine Kd.C_alloc ?_ _)|(with_reducible refine Kd.C_drewN ?_ _)|(with_reducible refine Kd.C_drew ?_)));(case side4=>exact HC1_10.out);rintro e w42 ⟨rfl,hb⟩;refine ⟨_,rfl,?_⟩;replace A0:=bb A0 hb;replace A1:=bb A1 hb;replace HB:=bs2 HB hb A2 Ad;(try clear hb);(try clear hb2);(try clear hk);(try clear hi)))
           go_ret
           exact ⟨er,tb HB⟩
         ·rw [if_neg c22] at H
          have c22b0:(Ai == a1_9)=false:=beq_eq_false_iff_ne.mpr c22;have c22b1:(Ai != a1_9)=true:=bne_iff_ne.mpr c22
          obtain rfl:=Option.some.inj H
          go_enter Try.func25,Try.ntmps25
          go_wp2_with (first|((with_reducible refine gate_dst (N:=2) rfl ?_);refine bx (N:=2) (cs:=#[.slice Ak A9.length Al,.int .i64 Ab,.string Ac,.int .i64 Aj,.slice Ao Aa.length Ap,.int .i64 Af,.bool Ae,.int .i64 Ag,.int .i64 Ah,.int .i64 Ai,.slice Am A7.length An]) (t:=36) ?_;intro At hg w43 hbox hb;have A0:=Aside0.mk (hbox);have Au:=bz0 hg HB;have A2:=bz0 hg HB;replace HB:=bs0 HB hb;clear hb hbox hg)|((with_reducible refine gate_dst (N:=3) rfl ?_);refine bx (N:=3) (cs:=#[.slice A1_0 l1_0.length c1_0,.int .i64 a1_1,.string a1_2,.int .i64 a1_3,.slice A1_4 l1_4.length c1_4,.int .i64 a1_5,.bool a1_6,.int .i64 a1_7,.int .i64 a1_8,.int .i64 a1_9,.slice A1_10 l1_10.length c1_10]) (t:=36) ?_;intro Av hg w44 hbox hb;have A1:=Aside0.mk (hbox);have Aw:=bz1 hg HB A2;have Ad:=bz1 hg HB A2;replace HB:=bs1 HB hb A2;have A4:=nl hg A0;have A6:=ng hg A0;replace A0:=bb A0 hb;clear hb hbox hg;have hnb45:=A4.out;have hnc45:=A6.out;have hcz46__:=c11_ A0;have hfz46__:=f_ A0;have hcz47__:=c11_ A1;have hfz47__:=f_ A1)|((with_reducible refine gate_callee (f:=20) rfl ?_);refine goesL_ (some 9) rfl rfl Try.func20 (by kernel_rfl) rfl #[.slice Ak A9.length Al,.slice A1_0 l1_0.length c1_0] rfl ml ?_;(with_reducible refine (laws_eqBoolS.calls k _ _ A9 _ _ l1_0 true _ ?side1 ?side2 ?side3 ?side4 A3.out).mono ?_);(case side1=>exact cw (Kd.C_below Ar.out HB.out));(case side2=>exact As.out);(case side3=>exact cw (Kd.C_below HR1_0.out HB.out));(case side4=>exact HC1_0.out);rintro e w' ⟨rfl,⟨nd,rfl⟩⟩;refine ⟨_,rfl,?_⟩)|((with_reducible refine gate_callee (f:=37) rfl ?_);refine goesL_ (some 15) rfl rfl Try.func37 (by kernel_rfl) rfl #[.agg #[.int .i64 Ab,.string Ac],.agg #[.int .i64 a1_1,.string a1_2]] rfl ml ?_;(with_reducible refine (laws_eqTable.calls Ab Ac a1_1 a1_2 true _ A5.out).mono ?_);rintro e w48 ⟨rfl,hb⟩;refine ⟨_,rfl,?_⟩;replace A0:=bb A0 hb;replace A1:=bb A1 hb;replace HB:=bs2 HB hb A2 Ad;(try clear hb);(try clear hb2);(try clear hk);(try clear hi);have hcz49__:=c11_ A0;have hfz49__:=f_ A0;have hcz50__:=c11_ A1;have hfz50__:=f_ A1)|((with_reducible refine gate_callee (f:=65) rfl ?_);refine goesL_ (some 26) rfl rfl Try.func65 (by kernel_rfl) rfl #[.slice Ao Aa.length Ap,.slice A1_4 l1_4.length c1_4] rfl ml ?_;(with_reducible refine (laws_eqIntS.calls k _ _ Aa _ _ l1_4 true _ ?side1 ?side2 ?side3 ?side4 A8.out).mono ?_);(case side1=>exact cw (Kd.C_below Ay.out HB.out));(case side2=>exact Az.out);(case side3=>exact cw (Kd.C_below HR1_4.out HB.out));(case side4=>exact HC1_4.out);rintro e w' ⟨rfl,⟨nd,rfl⟩⟩;refine ⟨_,rfl,?_⟩))
          go_ret
          exact ⟨er,tb HB⟩
        ·rw [if_neg c21] at H
         have c21b0:(Ah == a1_8)=false:=beq_eq_false_iff_ne.mpr c21;have c21b1:(Ah != a1_8)=true:=bne_iff_ne.mpr c21
         obtain rfl:=Option.some.inj H
         go_enter Try.func25,Try.ntmps25
         go_wp2_with (first|((with_reducible refine gate_dst (N:=2) rfl ?_);refine bx (N:=2) (cs:=#[.slice Ak A9.length Al,.int .i64 Ab,.string Ac,.int .i64 Aj,.slice Ao Aa.length Ap,.int .i64 Af,.bool Ae,.int .i64 Ag,.int .i64 Ah,.int .i64 Ai,.slice Am A7.length An]) (t:=36) ?_;intro At hg w51 hbox hb;have A0:=Aside0.mk (hbox);have Au:=bz0 hg HB;have A2:=bz0 hg HB;replace HB:=bs0 HB hb;clear hb hbox hg)|((with_reducible refine gate_dst (N:=3) rfl ?_);refine bx (N:=3) (cs:=#[.slice A1_0 l1_0.length c1_0,.int .i64 a1_1,.string a1_2,.int .i64 a1_3,.slice A1_4 l1_4.length c1_4,.int .i64 a1_5,.bool a1_6,.int .i64 a1_7,.int .i64 a1_8,.int .i64 a1_9,.slice A1_10 l1_10.length c1_10]) (t:=36) ?_;intro Av hg w52 hbox hb;have A1:=Aside0.mk (hbox);have Aw:=bz1 hg HB A2;have Ad:=bz1 hg HB A2;replace HB:=bs1 HB hb A2;have A4:=nl hg A0;have A6:=ng hg A0;replace A0:=bb A0 hb;clear hb hbox hg;have hnb53:=A4.out;have hnc53:=A6.out;have hcz54__:=c11_ A0;have hfz54__:=f_ A0;have hcz55__:=c11_ A1;have hfz55__:=f_ A1)|((with_reducible refine gate_callee (f:=20) rfl ?_);refine goesL_ (some 9) rfl rfl Try.func20 (by kernel_rfl) rfl #[.slice Ak A9.length Al,.slice A1_0 l1_0.length c1_0] rfl ml ?_;(with_reducible refine (laws_eqBoolS.calls k _ _ A9 _ _ l1_0 true _ ?side1 ?side2 ?side3 ?side4 A3.out).mono ?_);(case side1=>exact cw (Kd.C_below Ar.out HB.out));(case side2=>exact As.out);(case side3=>exact cw (Kd.C_below HR1_0.out HB.out));(case side4=>exact HC1_0.out);rintro e w' ⟨rfl,⟨nd,rfl⟩⟩;refine ⟨_,rfl,?_⟩)|((with_reducible refine gate_callee (f:=37) rfl ?_);refine goesL_ (some 15) rfl rfl Try.func37 (by kernel_rfl) rfl #[.agg #[.int .i64 Ab,.string Ac],.agg #[.int .i64 a1_1,.string a1_2]] rfl ml ?_;(with_reducible refine (laws_eqTable.calls Ab Ac a1_1 a1_2 true _ A5.out).mono ?_);rintro e w56 ⟨rfl,hb⟩;refine ⟨_,rfl,?_⟩;replace A0:=bb A0 hb;replace A1:=bb A1 hb;replace HB:=bs2 HB hb A2 Ad;(try clear hb);(try clear hb2);(try clear hk);(try clear hi);have hcz57__:=c11_ A0;have hfz57__:=f_ A0;have hcz58__:=c11_ A1;have hfz58__:=f_ A1)|((with_reducible refine gate_callee (f:=65) rfl ?_);refine goesL_ (some 26) rfl rfl Try.func65 (by kernel_rfl) rfl #[.slice Ao Aa.length Ap,.slice A1_4 l1_4.length c1_4] rfl ml ?_;(with_reducible refine (laws_eqIntS.calls k _ _ Aa _ _ l1_4 true _ ?side1 ?side2 ?side3 ?side4 A8.out).mono ?_);(case side1=>exact cw (Kd.C_below Ay.out HB.out));(case side2=>exact Az.out);(case side3=>exact cw (Kd.C_below HR1_4.out HB.out));(case side4=>exact HC1_4.out);rintro e w' ⟨rfl,⟨nd,rfl⟩⟩;refine ⟨_,rfl,?_⟩))
         go_ret
         exact ⟨er,tb HB⟩
       ·rw [if_neg c20] at H
        have c20b0:(Ag == a1_7)=false:=beq_eq_false_iff_ne.mpr c20;have c20b1:(Ag != a1_7)=true:=bne_iff_ne.mpr c20
        obtain rfl:=Option.some.inj H
        go_enter Try.func25,Try.ntmps25
        go_wp2_with (first|((with_reducible refine gate_dst (N:=2) rfl ?_);refine bx (N:=2) (cs:=#[.slice Ak A9.length Al,.int .i64 Ab,.string Ac,.int .i64 Aj,.slice Ao Aa.length Ap,.int .i64 Af,.bool Ae,.int .i64 Ag,.int .i64 Ah,.int .i64 Ai,.slice Am A7.length An]) (t:=36) ?_;intro At hg w59 hbox hb;have A0:=Aside0.mk (hbox);have Au:=bz0 hg HB;have A2:=bz0 hg HB;replace HB:=bs0 HB hb;clear hb hbox hg)|((with_reducible refine gate_dst (N:=3) rfl ?_);refine bx (N:=3) (cs:=#[.slice A1_0 l1_0.length c1_0,.int .i64 a1_1,.string a1_2,.int .i64 a1_3,.slice A1_4 l1_4.length c1_4,.int .i64 a1_5,.bool a1_6,.int .i64 a1_7,.int .i64 a1_8,.int .i64 a1_9,.slice A1_10 l1_10.length c1_10]) (t:=36) ?_;intro Av hg w60 hbox hb;have A1:=Aside0.mk (hbox);have Aw:=bz1 hg HB A2;have Ad:=bz1 hg HB A2;replace HB:=bs1 HB hb A2;have A4:=nl hg A0;have A6:=ng hg A0;replace A0:=bb A0 hb;clear hb hbox hg;have hnb61:=A4.out;have hnc61:=A6.out;have hcz62__:=c11_ A0;have hfz62__:=f_ A0;have hcz63__:=c11_ A1;have hfz63__:=f_ A1)|((with_reducible refine gate_callee (f:=20) rfl ?_);refine goesL_ (some 9) rfl rfl Try.func20 (by kernel_rfl) rfl #[.slice Ak A9.length Al,.slice A1_0 l1_0.length c1_0] rfl ml ?_;(with_reducible refine (laws_eqBoolS.calls k _ _ A9 _ _ l1_0 true _ ?side1 ?side2 ?side3 ?side4 A3.out).mono ?_);(case side1=>exact cw (Kd.C_below Ar.out HB.out));(case side2=>exact As.out);(case side3=>exact cw (Kd.C_below HR1_0.out HB.out));(case side4=>exact HC1_0.out);rintro e w' ⟨rfl,⟨nd,rfl⟩⟩;refine ⟨_,rfl,?_⟩)|((with_reducible refine gate_callee (f:=37) rfl ?_);refine goesL_ (some 15) rfl rfl Try.func37 (by kernel_rfl) rfl #[.agg #[.int .i64 Ab,.string Ac],.agg #[.int .i64 a1_1,.string a1_2]] rfl ml ?_;(with_reducible refine (laws_eqTable.calls Ab Ac a1_1 a1_2 true _ A5.out).mono ?_);rintro e w64 ⟨rfl,hb⟩;refine ⟨_,rfl,?_⟩;replace A0:=bb A0 hb;replace A1:=bb A1 hb;replace HB:=bs2 HB hb A2 Ad;(try clear hb);(try clear hb2);(try clear hk);(try clear hi);have hcz65__:=c11_ A0;have hfz65__:=f_ A0;have hcz66__:=c11_ A1;have hfz66__:=f_ A1)|((with_reducible refine gate_callee (f:=65) rfl ?_);refine goesL_ (some 26) rfl rfl Try.func65 (by kernel_rfl) rfl #[.slice Ao Aa.length Ap,.slice A1_4 l1_4.length c1_4] rfl ml ?_;(with_reducible refine (laws_eqIntS.calls k _ _ Aa _ _ l1_4 true _ ?side1 ?side2 ?side3 ?side4 A8.out).mono ?_);(case side1=>exact cw (Kd.C_below Ay.out HB.out));(case side2=>exact Az.out);(case side3=>exact cw (Kd.C_below HR1_4.out HB.out));(case side4=>exact HC1_4.out);rintro e w' ⟨rfl,⟨nd,rfl⟩⟩;refine ⟨_,rfl,?_⟩))
        go_ret
        exact ⟨er,tb HB⟩
     ·rw [if_neg c10] at H
      have c10b0:(Af == a1_5)=false:=beq_eq_false_iff_ne.mpr c10;have c10b1:(Af != a1_5)=true:=bne_iff_ne.mpr c10
      obtain rfl:=Option.some.inj H
      go_enter Try.func25,Try.ntmps25
      go_wp2_with (first|((with_reducible refine gate_dst (N:=2) rfl ?_);refine bx (N:=2) (cs:=#[.slice Ak A9.length Al,.int .i64 Ab,.string Ac,.int .i64 Aj,.slice Ao Aa.length Ap,.int .i64 Af,.bool Ae,.int .i64 Ag,.int .i64 Ah,.int .i64 Ai,.slice Am A7.length An]) (t:=36) ?_;intro At hg w67 hbox hb;have A0:=Aside0.mk (hbox);have Au:=bz0 hg HB;have A2:=bz0 hg HB;replace HB:=bs0 HB hb;clear hb hbox hg)|((with_reducible refine gate_dst (N:=3) rfl ?_);refine bx (N:=3) (cs:=#[.slice A1_0 l1_0.length c1_0,.int .i64 a1_1,.string a1_2,.int .i64 a1_3,.slice A1_4 l1_4.length c1_4,.int .i64 a1_5,.bool a1_6,.int .i64 a1_7,.int .i64 a1_8,.int .i64 a1_9,.slice A1_10 l1_10.length c1_10]) (t:=36) ?_;intro Av hg w68 hbox hb;have A1:=Aside0.mk (hbox);have Aw:=bz1 hg HB A2;have Ad:=bz1 hg HB A2;replace HB:=bs1 HB hb A2;have A4:=nl hg A0;have A6:=ng hg A0;replace A0:=bb A0 hb;clear hb hbox hg;have hnb69:=A4.out;have hnc69:=A6.out;have hcz70__:=c11_ A0;have hfz70__:=f_ A0;have hcz71__:=c11_ A1;have hfz71__:=f_ A1)|((with_reducible refine gate_callee (f:=20) rfl ?_);refine goesL_ (some 9) rfl rfl Try.func20 (by kernel_rfl) rfl #[.slice Ak A9.length Al,.slice A1_0 l1_0.length c1_0] rfl ml ?_;(with_reducible refine (laws_eqBoolS.calls k _ _ A9 _ _ l1_0 true _ ?side1 ?side2 ?side3 ?side4 A3.out).mono ?_);(case side1=>exact cw (Kd.C_below Ar.out HB.out));(case side2=>exact As.out);(case side3=>exact cw (Kd.C_below HR1_0.out HB.out));(case side4=>exact HC1_0.out);rintro e w' ⟨rfl,⟨nd,rfl⟩⟩;refine ⟨_,rfl,?_⟩)|((with_reducible refine gate_callee (f:=37) rfl ?_);refine goesL_ (some 15) rfl rfl Try.func37 (by kernel_rfl) rfl #[.agg #[.int .i64 Ab,.string Ac],.agg #[.int .i64 a1_1,.string a1_2]] rfl ml ?_;(with_reducible refine (laws_eqTable.calls Ab Ac a1_1 a1_2 true _ A5.out).mono ?_);rintro e w72 ⟨rfl,hb⟩;refine ⟨_,rfl,?_⟩;replace A0:=bb A0 hb;replace A1:=bb A1 hb;replace HB:=bs2 HB hb A2 Ad;(try clear hb);(try clear hb2);(try clear hk);(try clear hi);have hcz73__:=c11_ A0;have hfz73__:=f_ A0;have hcz74__:=c11_ A1;have hfz74__:=f_ A1)|((with_reducible refine gate_callee (f:=65) rfl ?_);refine goesL_ (some 26) rfl rfl Try.func65 (by kernel_rfl) rfl #[.slice Ao Aa.length Ap,.slice A1_4 l1_4.length c1_4] rfl ml ?_;(with_reducible refine (laws_eqIntS.calls k _ _ Aa _ _ l1_4 true _ ?side1 ?side2 ?side3 ?side4 A8.out).mono ?_);(case side1=>exact cw (Kd.C_below Ay.out HB.out));(case side2=>exact Az.out);(case side3=>exact cw (Kd.C_below HR1_4.out HB.out));(case side4=>exact HC1_4.out);rintro e w' ⟨rfl,⟨nd,rfl⟩⟩;refine ⟨_,rfl,?_⟩))
      go_ret
      exact ⟨er,tb HB⟩
    ·replace c9:=Bool.eq_false_iff.mpr c9
     subst c9
     have H1:(some false)=some r:=by rw [if_neg (show ¬ (false=true) by decide)] at H;exact H
     clear H;have H:=H1;clear H1
     obtain rfl:=Option.some.inj H
     go_enter Try.func25,Try.ntmps25
     go_wp2_with (first|((with_reducible refine gate_dst (N:=2) rfl ?_);refine bx (N:=2) (cs:=#[.slice Ak A9.length Al,.int .i64 Ab,.string Ac,.int .i64 Aj,.slice Ao Aa.length Ap,.int .i64 Af,.bool Ae,.int .i64 Ag,.int .i64 Ah,.int .i64 Ai,.slice Am A7.length An]) (t:=36) ?_;intro At hg w75 hbox hb;have A0:=Aside0.mk (hbox);have Au:=bz0 hg HB;have A2:=bz0 hg HB;replace HB:=bs0 HB hb;clear hb hbox hg)|((with_reducible refine gate_dst (N:=3) rfl ?_);refine bx (N:=3) (cs:=#[.slice A1_0 l1_0.length c1_0,.int .i64 a1_1,.string a1_2,.int .i64 a1_3,.slice A1_4 l1_4.length c1_4,.int .i64 a1_5,.bool a1_6,.int .i64 a1_7,.int .i64 a1_8,.int .i64 a1_9,.slice A1_10 l1_10.length c1_10]) (t:=36) ?_;intro Av hg w76 hbox hb;have A1:=Aside0.mk (hbox);have Aw:=bz1 hg HB A2;have Ad:=bz1 hg HB A2;replace HB:=bs1 HB hb A2;have A4:=nl hg A0;have A6:=ng hg A0;replace A0:=bb A0 hb;clear hb hbox hg;have hnb77:=A4.out;have hnc77:=A6.out;have hcz78__:=c11_ A0;have hfz78__:=f_ A0;have hcz79__:=c11_ A1;have hfz79__:=f_ A1)|((with_reducible refine gate_callee (f:=20) rfl ?_);refine goesL_ (some 9) rfl rfl Try.func20 (by kernel_rfl) rfl #[.slice Ak A9.length Al,.slice A1_0 l1_0.length c1_0] rfl ml ?_;(with_reducible refine (laws_eqBoolS.calls k _ _ A9 _ _ l1_0 true _ ?side1 ?side2 ?side3 ?side4 A3.out).mono ?_);(case side1=>exact cw (Kd.C_below Ar.out HB.out));(case side2=>exact As.out);(case side3=>exact cw (Kd.C_below HR1_0.out HB.out));(case side4=>exact HC1_0.out);rintro e w' ⟨rfl,⟨nd,rfl⟩⟩;refine ⟨_,rfl,?_⟩)|((with_reducible refine gate_callee (f:=37) rfl ?_);refine goesL_ (some 15) rfl rfl Try.func37 (by kernel_rfl) rfl #[.agg #[.int .i64 Ab,.string Ac],.agg #[.int .i64 a1_1,.string a1_2]] rfl ml ?_;(with_reducible refine (laws_eqTable.calls Ab Ac a1_1 a1_2 true _ A5.out).mono ?_);rintro e w80 ⟨rfl,hb⟩;refine ⟨_,rfl,?_⟩;replace A0:=bb A0 hb;replace A1:=bb A1 hb;replace HB:=bs2 HB hb A2 Ad;(try clear hb);(try clear hb2);(try clear hk);(try clear hi);have hcz81__:=c11_ A0;have hfz81__:=f_ A0;have hcz82__:=c11_ A1;have hfz82__:=f_ A1)|((with_reducible refine gate_callee (f:=65) rfl ?_);refine goesL_ (some 26) rfl rfl Try.func65 (by kernel_rfl) rfl #[.slice Ao Aa.length Ap,.slice A1_4 l1_4.length c1_4] rfl ml ?_;(with_reducible refine (laws_eqIntS.calls k _ _ Aa _ _ l1_4 false _ ?side1 ?side2 ?side3 ?side4 A8.out).mono ?_);(case side1=>exact cw (Kd.C_below Ay.out HB.out));(case side2=>exact Az.out);(case side3=>exact cw (Kd.C_below HR1_4.out HB.out));(case side4=>exact HC1_4.out);rintro e w' ⟨rfl,⟨nd,rfl⟩⟩;refine ⟨_,rfl,?_⟩))
     go_ret
     exact ⟨er,tb HB⟩
   ·rw [if_neg c7] at H
    have c7b0:(Aj == a1_3)=false:=beq_eq_false_iff_ne.mpr c7;have c7b1:(Aj != a1_3)=true:=bne_iff_ne.mpr c7
    obtain rfl:=Option.some.inj H
    go_enter Try.func25,Try.ntmps25
    go_wp2_with (first|((with_reducible refine gate_dst (N:=2) rfl ?_);refine bx (N:=2) (cs:=#[.slice Ak A9.length Al,.int .i64 Ab,.string Ac,.int .i64 Aj,.slice Ao Aa.length Ap,.int .i64 Af,.bool Ae,.int .i64 Ag,.int .i64 Ah,.int .i64 Ai,.slice Am A7.length An]) (t:=36) ?_;intro At hg w83 hbox hb;have A0:=Aside0.mk (hbox);have Au:=bz0 hg HB;have A2:=bz0 hg HB;replace HB:=bs0 HB hb;clear hb hbox hg)|((with_reducible refine gate_dst (N:=3) rfl ?_);refine bx (N:=3) (cs:=#[.slice A1_0 l1_0.length c1_0,.int .i64 a1_1,.string a1_2,.int .i64 a1_3,.slice A1_4 l1_4.length c1_4,.int .i64 a1_5,.bool a1_6,.int .i64 a1_7,.int .i64 a1_8,.int .i64 a1_9,.slice A1_10 l1_10.length c1_10]) (t:=36) ?_;intro Av hg w84 hbox hb;have A1:=Aside0.mk (hbox);have Aw:=bz1 hg HB A2;have Ad:=bz1 hg HB A2;replace HB:=bs1 HB hb A2;have A4:=nl hg A0;have A6:=ng hg A0;replace A0:=bb A0 hb;clear hb hbox hg;have hnb85:=A4.out;have hnc85:=A6.out;have hcz86__:=c11_ A0;have hfz86__:=f_ A0;have hcz87__:=c11_ A1;have hfz87__:=f_ A1)|((with_reducible refine gate_callee (f:=20) rfl ?_);refine goesL_ (some 9) rfl rfl Try.func20 (by kernel_rfl) rfl #[.slice Ak A9.length Al,.slice A1_0 l1_0.length c1_0] rfl ml ?_;(with_reducible refine (laws_eqBoolS.calls k _ _ A9 _ _ l1_0 true _ ?side1 ?side2 ?side3 ?side4 A3.out).mono ?_);(case side1=>exact cw (Kd.C_below Ar.out HB.out));(case side2=>exact As.out);(case side3=>exact cw (Kd.C_below HR1_0.out HB.out));(case side4=>exact HC1_0.out);rintro e w' ⟨rfl,⟨nd,rfl⟩⟩;refine ⟨_,rfl,?_⟩)|((with_reducible refine gate_callee (f:=37) rfl ?_);refine goesL_ (some 15) rfl rfl Try.func37 (by kernel_rfl) rfl #[.agg #[.int .i64 Ab,.string Ac],.agg #[.int .i64 a1_1,.string a1_2]] rfl ml ?_;(with_reducible refine (laws_eqTable.calls Ab Ac a1_1 a1_2 true _ A5.out).mono ?_);rintro e w88 ⟨rfl,hb⟩;refine ⟨_,rfl,?_⟩;replace A0:=bb A0 hb;replace A1:=bb A1 hb;replace HB:=bs2 HB hb A2 Ad;(try clear hb);(try clear hb2);(try clear hk);(try clear hi);have hcz89__:=c11_ A0;have hfz89__:=f_ A0;have hcz90__:=c11_ A1;have hfz90__:=f_ A1))
    go_ret
    exact ⟨er,tb HB⟩
  ·replace c6:=Bool.eq_false_iff.mpr c6
   subst c6
   have H1:(some false)=some r:=by rw [if_neg (show ¬ (false=true) by decide)] at H;exact H
   clear H;have H:=H1;clear H1
   obtain rfl:=Option.some.inj H
   go_enter Try.func25,Try.ntmps25
   go_wp2_with (first|((with_reducible refine gate_dst (N:=2) rfl ?_);refine bx (N:=2) (cs:=#[.slice Ak A9.length Al,.int .i64 Ab,.string Ac,.int .i64 Aj,.slice Ao Aa.length Ap,.int .i64 Af,.bool Ae,.int .i64 Ag,.int .i64 Ah,.int .i64 Ai,.slice Am A7.length An]) (t:=36) ?_;intro At hg w91 hbox hb;have A0:=Aside0.mk (hbox);have Au:=bz0 hg HB;have A2:=bz0 hg HB;replace HB:=bs0 HB hb;clear hb hbox hg)|((with_reducible refine gate_dst (N:=3) rfl ?_);refine bx (N:=3) (cs:=#[.slice A1_0 l1_0.length c1_0,.int .i64 a1_1,.string a1_2,.int .i64 a1_3,.slice A1_4 l1_4.length c1_4,.int .i64 a1_5,.bool a1_6,.int .i64 a1_7,.int .i64 a1_8,.int .i64 a1_9,.slice A1_10 l1_10.length c1_10]) (t:=36) ?_;intro Av hg w92 hbox hb;have A1:=Aside0.mk (hbox);have Aw:=bz1 hg HB A2;have Ad:=bz1 hg HB A2;replace HB:=bs1 HB hb A2;have A4:=nl hg A0;have A6:=ng hg A0;replace A0:=bb A0 hb;clear hb hbox hg;have hnb93:=A4.out;have hnc93:=A6.out;have hcz94__:=c11_ A0;have hfz94__:=f_ A0;have hcz95__:=c11_ A1;have hfz95__:=f_ A1)|((with_reducible refine gate_callee (f:=20) rfl ?_);refine goesL_ (some 9) rfl rfl Try.func20 (by kernel_rfl) rfl #[.slice Ak A9.length Al,.slice A1_0 l1_0.length c1_0] rfl ml ?_;(with_reducible refine (laws_eqBoolS.calls k _ _ A9 _ _ l1_0 true _ ?side1 ?side2 ?side3 ?side4 A3.out).mono ?_);(case side1=>exact cw (Kd.C_below Ar.out HB.out));(case side2=>exact As.out);(case side3=>exact cw (Kd.C_below HR1_0.out HB.out));(case side4=>exact HC1_0.out);rintro e w' ⟨rfl,⟨nd,rfl⟩⟩;refine ⟨_,rfl,?_⟩)|((with_reducible refine gate_callee (f:=37) rfl ?_);refine goesL_ (some 15) rfl rfl Try.func37 (by kernel_rfl) rfl #[.agg #[.int .i64 Ab,.string Ac],.agg #[.int .i64 a1_1,.string a1_2]] rfl ml ?_;(with_reducible refine (laws_eqTable.calls Ab Ac a1_1 a1_2 false _ A5.out).mono ?_);rintro e w96 ⟨rfl,hb⟩;refine ⟨_,rfl,?_⟩;replace A0:=bb A0 hb;replace A1:=bb A1 hb;replace HB:=bs2 HB hb A2 Ad;(try clear hb);(try clear hb2);(try clear hk);(try clear hi)))
   go_ret
   exact ⟨er,tb HB⟩
 ·replace c4:=Bool.eq_false_iff.mpr c4
  subst c4
  have H1:(some false)=some r:=by rw [if_neg (show ¬ (false=true) by decide)] at H;exact H
  clear H;have H:=H1;clear H1
  obtain rfl:=Option.some.inj H
  go_enter Try.func25,Try.ntmps25
  go_wp2_with (first|((with_reducible refine gate_dst (N:=2) rfl ?_);refine bx (N:=2) (cs:=#[.slice Ak A9.length Al,.int .i64 Ab,.string Ac,.int .i64 Aj,.slice Ao Aa.length Ap,.int .i64 Af,.bool Ae,.int .i64 Ag,.int .i64 Ah,.int .i64 Ai,.slice Am A7.length An]) (t:=36) ?_;intro At hg w97 hbox hb;have A0:=Aside0.mk (hbox);have Au:=bz0 hg HB;have A2:=bz0 hg HB;replace HB:=bs0 HB hb;clear hb hbox hg)|((with_reducible refine gate_dst (N:=3) rfl ?_);refine bx (N:=3) (cs:=#[.slice A1_0 l1_0.length c1_0,.int .i64 a1_1,.string a1_2,.int .i64 a1_3,.slice A1_4 l1_4.length c1_4,.int .i64 a1_5,.bool a1_6,.int .i64 a1_7,.int .i64 a1_8,.int .i64 a1_9,.slice A1_10 l1_10.length c1_10]) (t:=36) ?_;intro Av hg w98 hbox hb;have A1:=Aside0.mk (hbox);have Aw:=bz1 hg HB A2;have Ad:=bz1 hg HB A2;replace HB:=bs1 HB hb A2;have A4:=nl hg A0;have A6:=ng hg A0;replace A0:=bb A0 hb;clear hb hbox hg;have hnb99:=A4.out;have hnc99:=A6.out;have hcz100__:=c11_ A0;have hfz100__:=f_ A0;have hcz101__:=c11_ A1;have hfz101__:=f_ A1)|((with_reducible refine gate_callee (f:=20) rfl ?_);refine goesL_ (some 9) rfl rfl Try.func20 (by kernel_rfl) rfl #[.slice Ak A9.length Al,.slice A1_0 l1_0.length c1_0] rfl ml ?_;(with_reducible refine (laws_eqBoolS.calls k _ _ A9 _ _ l1_0 false _ ?side1 ?side2 ?side3 ?side4 A3.out).mono ?_);(case side1=>exact cw (Kd.C_below Ar.out HB.out));(case side2=>exact As.out);(case side3=>exact cw (Kd.C_below HR1_0.out HB.out));(case side4=>exact HC1_0.out);rintro e w' ⟨rfl,⟨nd,rfl⟩⟩;refine ⟨_,rfl,?_⟩))
  go_ret
  exact ⟨er,tb HB⟩
end Go.Proofs.Ytlpfmhikahlcoaa.G
namespace Go.Proofs.Ytlpfmhikahlcoaa.G
open Go.Proofs.Ytlpfmhikahlcoaa.Sh
open Go.RowKit Go.Proofs.YtlpfmhikahlcoaaW.PrintWords Go.Proofs.YtlpfmhikahlcoaaW.PrintLast Go.Proofs.YtlpfmhikahlcoaaW.PrintMore
attribute [local go_sem] max2_int min2_int max_two min_two max_three min_three max_four min_four
set_option linter.unusedVariables false
set_option linter.unusedSimpArgs false
def laws_heldBoolS.l0:Nat→List Bool→Int→Int→Option (Int)
  | 0,_,_,_=>none
  | k + 1,x0,x1,x5=>if x5 < (x0.length:Int) then (if 0≤x5 then (if ((rdOf false x0 x5) != ((Int.tmod x1 3) == 0))=true then (some (-1)) else (laws_heldBoolS.l0 k x0 (wrap64 (x1 + 1)) (wrap64 (x5 + 1)))) else (none)) else (some x1)
def laws_heldBoolS.f (k:Nat) (l0:List Bool) (a1:Int):Option (Int):=laws_heldBoolS.l0 k l0 a1 0
set_option maxHeartbeats 8000000 in
set_option maxRecDepth 100000 in
theorem laws_heldBoolS.calls (k:Nat) (A0:Option Addr) (c0:Nat) (l0:List Bool) (a1:Int) (r:Int) (w:World) (hr0:Kd.C Kd.bool w A0 l0.length l0) (hc0:l0.length≤c0) (h:laws_heldBoolS.f k l0 a1=some r) :
    Calls Try.prog 69 #[.slice A0 l0.length c0,.int .i64 a1] w fun e w'=>e = .returned (.int .i64 r)∧Drawn0 w w':=by
  have HR0:=Aside0.mk hr0
  have HC0:=Aside0.mk hc0
  clear hr0 hc0
  have H:(laws_heldBoolS.l0 k l0 a1 0)=some r:=h
  clear h
  have H':=Aside0.mk H
  clear H
  go_enter Try.func69,Try.ntmps69
  go_wp2
  go_loopg [1,5] k (fun kq v1 v5 w'=>∃ (A2:Int) (A1:Int),v1 = .int .i64 A2∧v5 = .int .i64 A1∧Aside0 (laws_heldBoolS.l0 kq l0 A2 A1=some r)∧Aside0 (kq≤k)∧Drawn0 w w')
  case atStart=>exact ⟨(a1),(0),(by first|rfl|(simp;done)|(simp [*];done)),(by first|rfl|(simp;done)|(simp [*];done)),H',⟨Nat.le_refl _⟩,by repeat (first|exact Drawn0.refl _|apply Drawn0.step)⟩
  case round =>
    clear H'
    try clear p2
    obtain ⟨A2,A1,rfl,rfl,HA,HK1,⟨m1,rfl⟩⟩:=hrel
    cases gk with
    | zero=>exact absurd HA.out (by simp [laws_heldBoolS.l0])
    | succ k1 =>
      have H:=HA.out
      clear HA
      simp only [laws_heldBoolS.l0] at H
      by_cases c3:A1 < (l0.length:Int)
      · rw [if_pos c3] at H
        have c3b0:decide (A1 < (l0.length:Int))=true:=decide_eq_true c3
        clear c3
        by_cases c4:0≤A1
        · rw [if_pos c4] at H
          have c4b0:decide (0≤A1)=true:=decide_eq_true c4
          clear c4
          by_cases c5:((rdOf false l0 A1) != ((Int.tmod A2 3) == 0))=true
          · rw [if_pos c5] at H
            have c5b0:((rdOf false l0 A1) != ((Int.tmod A2 3) == 0))=true:=c5
            (try (have c5b1:decide ((rdOf false l0 A1)=((Int.tmod A2 3) == 0))=false:=by simpa using c5))
            (try (have c5b2:((rdOf false l0 A1) == ((Int.tmod A2 3) == 0))=false:=by simpa using c5))
            (try (have c5b3:¬ ((rdOf false l0 A1)=((Int.tmod A2 3) == 0)):=by simpa using c5))
            clear c5
            obtain rfl:=Option.some.inj H
            have p101:0≤(A1:Int):=od
            have q101:A1 < (l0.length:Int):=od
            obtain ⟨ad101,e101,hx101_0⟩:=Kd.at_bool HR0.out A1 p101 q101
            cases e101
            replace p101:=eq_true p101
            replace q101:=eq_true q101
            go_wp2
            go_ret
            exact ⟨by first|rfl|(simp;done)|(simp [*];done),by repeat (first|exact Drawn0.refl _|apply Drawn0.step)⟩
          · rw [if_neg c5] at H
            have c5b0:((rdOf false l0 A1) != ((Int.tmod A2 3) == 0))=false:=by simpa using c5
            (try (have c5b1:decide ((rdOf false l0 A1)=((Int.tmod A2 3) == 0))=true:=by simpa using c5))
            (try (have c5b2:((rdOf false l0 A1) == ((Int.tmod A2 3) == 0))=true:=by simpa using c5))
            clear c5
            have H':=Aside0.mk H
            clear H
            have p101:0≤(A1:Int):=od
            have q101:A1 < (l0.length:Int):=od
            obtain ⟨ad101,e101,hx101_0⟩:=Kd.at_bool HR0.out A1 p101 q101
            cases e101
            replace p101:=eq_true p101
            replace q101:=eq_true q101
            go_wp2
            go_roundg k1
            case measure=>have:=HK1.out;omega
            case rel=>exact ⟨(wrap64 (A2 + 1)),(wrap64 (A1 + 1)),(by first|rfl|(simp;done)|(simp [*];done)),(by first|rfl|(simp;done)|(simp [*];done)),H',⟨by have:=HK1.out;omega⟩,by repeat (first|exact Drawn0.refl _|apply Drawn0.step)⟩
        · rw [if_neg c4] at H
          exact absurd H (by simp)
      · rw [if_neg c3] at H
        have c3b0:decide (A1 < (l0.length:Int))=false:=decide_eq_false c3
        clear c3
        obtain rfl:=Option.some.inj H
        go_wp2
        go_ret
        exact ⟨by first|rfl|(simp;done)|(simp [*];done),by repeat (first|exact Drawn0.refl _|apply Drawn0.step)⟩
def laws_heldIntS.l0:Nat→List Int→Int→Int→Option (Int)
  | 0,_,_,_=>none
  | k + 1,x0,x1,x5=>if x5 < (x0.length:Int) then (if 0≤x5 then (if (rd x0 x5)=x1 then (laws_heldIntS.l0 k x0 (wrap64 (x1 + 1)) (wrap64 (x5 + 1))) else (some (-1))) else (none)) else (some x1)
def laws_heldIntS.f (k:Nat) (l0:List Int) (a1:Int):Option (Int):=laws_heldIntS.l0 k l0 a1 0
set_option maxHeartbeats 8000000 in
set_option maxRecDepth 100000 in
theorem laws_heldIntS.calls (k:Nat) (A0:Option Addr) (c0:Nat) (l0:List Int) (a1:Int) (r:Int) (w:World) (hr0:Kd.C (Kd.int .i64) w A0 l0.length l0) (hc0:l0.length≤c0) (h:laws_heldIntS.f k l0 a1=some r) :
    Calls Try.prog 70 #[.slice A0 l0.length c0,.int .i64 a1] w fun e w'=>e = .returned (.int .i64 r)∧Drawn0 w w':=by
  have HR0:=Aside0.mk hr0
  have HC0:=Aside0.mk hc0
  clear hr0 hc0
  have H:(laws_heldIntS.l0 k l0 a1 0)=some r:=h
  clear h
  have H':=Aside0.mk H
  clear H
  go_enter Try.func70,Try.ntmps70
  go_wp2
  go_loopg [1,5] k (fun kq v1 v5 w'=>∃ (A2:Int) (A1:Int),v1 = .int .i64 A2∧v5 = .int .i64 A1∧Aside0 (laws_heldIntS.l0 kq l0 A2 A1=some r)∧Aside0 (kq≤k)∧Drawn0 w w')
  case atStart=>exact ⟨(a1),(0),(by first|rfl|(simp;done)|(simp [*];done)),(by first|rfl|(simp;done)|(simp [*];done)),H',⟨Nat.le_refl _⟩,by repeat (first|exact Drawn0.refl _|apply Drawn0.step)⟩
  case round =>
    clear H'
    try clear p2
    obtain ⟨A2,A1,rfl,rfl,HA,HK1,⟨m1,rfl⟩⟩:=hrel
    cases gk with
    | zero=>exact absurd HA.out (by simp [laws_heldIntS.l0])
    | succ k1 =>
      have H:=HA.out
      clear HA
      simp only [laws_heldIntS.l0] at H
      by_cases c3:A1 < (l0.length:Int)
      · rw [if_pos c3] at H
        have c3b0:decide (A1 < (l0.length:Int))=true:=decide_eq_true c3
        clear c3
        by_cases c4:0≤A1
        · rw [if_pos c4] at H
          have c4b0:decide (0≤A1)=true:=decide_eq_true c4
          clear c4
          by_cases c5:(rd l0 A1)=A2
          · rw [if_pos c5] at H
            have c5b0:((rd l0 A1) == A2)=true:=beq_iff_eq.mpr c5
            have c5b1:((rd l0 A1) != A2)=false:=bne_eq_false_iff_eq.mpr c5
            clear c5
            have H':=Aside0.mk H
            clear H
            have p101:0≤(A1:Int):=od
            have q101:A1 < (l0.length:Int):=od
            obtain ⟨ad101,e101,hx101_0⟩:=Kd.at_int HR0.out A1 p101 q101
            cases e101
            replace p101:=eq_true p101
            replace q101:=eq_true q101
            go_wp2
            go_roundg k1
            case measure=>have:=HK1.out;omega
            case rel=>exact ⟨(wrap64 (A2 + 1)),(wrap64 (A1 + 1)),(by first|rfl|(simp;done)|(simp [*];done)),(by first|rfl|(simp;done)|(simp [*];done)),H',⟨by have:=HK1.out;omega⟩,by repeat (first|exact Drawn0.refl _|apply Drawn0.step)⟩
          · rw [if_neg c5] at H
            have c5b0:((rd l0 A1) == A2)=false:=beq_eq_false_iff_ne.mpr c5
            have c5b1:((rd l0 A1) != A2)=true:=bne_iff_ne.mpr c5
            obtain rfl:=Option.some.inj H
            have p101:0≤(A1:Int):=od
            have q101:A1 < (l0.length:Int):=od
            obtain ⟨ad101,e101,hx101_0⟩:=Kd.at_int HR0.out A1 p101 q101
            cases e101
            replace p101:=eq_true p101
            replace q101:=eq_true q101
            go_wp2
            go_ret
            exact ⟨by first|rfl|(simp;done)|(simp [*];done),by repeat (first|exact Drawn0.refl _|apply Drawn0.step)⟩
        · rw [if_neg c4] at H
          exact absurd H (by simp)
      · rw [if_neg c3] at H
        have c3b0:decide (A1 < (l0.length:Int))=false:=decide_eq_false c3
        clear c3
        obtain rfl:=Option.some.inj H
        go_wp2
        go_ret
        exact ⟨by first|rfl|(simp;done)|(simp [*];done),by repeat (first|exact Drawn0.refl _|apply Drawn0.step)⟩
def laws_markText.l0:Nat→Int→ByteArray→Option (ByteArray)
  | 0,_,_=>none
  | k + 1,x0,x3=>if x0 > 0 then ((some (([(wrap64 (48 + (Int.tmod x0 10))) % 256]:List Int):List Int)).bind fun y101=>(if (strOfNums y101).size + x3.size≤9223372036854775807 then (laws_markText.l0 k (wrap64 (Int.tdiv x0 10)) ((strOfNums y101) ++ x3)) else (none))) else (if 1 + x3.size≤9223372036854775807 then (some ((⟨#[109]⟩:ByteArray) ++ x3)) else (none))
def laws_markText.f (k:Nat) (a0:Int):Option (ByteArray):=if a0≤0 then (some (⟨#[109,48]⟩:ByteArray)) else (laws_markText.l0 k a0 (⟨#[]⟩:ByteArray))
set_option maxHeartbeats 8000000 in
set_option maxRecDepth 100000 in
theorem laws_markText.calls (k:Nat) (a0:Int) (r:ByteArray) (w:World) (h:laws_markText.f k a0=some r) :
    Calls Try.prog 110 #[.int .i64 a0] w fun e w'=>e = .returned (.string r)∧Below w.heap.size w w':=by
  have HB:=Aside0.mk (Below.refl w.heap.size w)
  have H:(if a0≤0 then (some (⟨#[109,48]⟩:ByteArray)) else (laws_markText.l0 k a0 (⟨#[]⟩:ByteArray)))=some r:=h
  clear h
  by_cases c2:a0≤0
  · rw [if_pos c2] at H
    have c2b0:decide (a0≤0)=true:=decide_eq_true c2
    clear c2
    obtain rfl:=Option.some.inj H
    go_enter Try.func110,Try.ntmps110
    go_wp2
    go_ret
    exact ⟨er,tb HB⟩
  · rw [if_neg c2] at H
    have c2b0:decide (a0≤0)=false:=decide_eq_false c2
    clear c2
    have H':=Aside0.mk H
    clear H
    go_enter Try.func110,Try.ntmps110
    go_wp2
    go_loopg [0,3] k (fun kq v0 v3 w'=>∃ (A0:Int) (A1:ByteArray),v0 = .int .i64 A0∧v3 = .string A1∧Aside0 (laws_markText.l0 kq A0 A1=some r)∧Aside0 (kq≤k)∧Aside0 (Below w.heap.size w w'))
    case atStart=>exact ⟨(a0),((⟨#[]⟩:ByteArray)),(by first|rfl|(simp;done)|(simp [*];done)),(by first|rfl|(simp;done)|(simp [*];done)),H',⟨Nat.le_refl _⟩,⟨by exact tb HB⟩⟩
    case round =>
      clear H'
      try clear c1
      try clear c2
      try clear c2b0
      try clear p2
      obtain ⟨A0,A1,rfl,rfl,HA,HK1,HB⟩:=hrel
      cases gk with
      | zero=>exact absurd HA.out (by simp [laws_markText.l0])
      | succ k1 =>
        have H:=HA.out
        clear HA
        simp only [laws_markText.l0] at H
        by_cases c3:A0 > 0
        · rw [if_pos c3] at H
          have c3b0:decide (0 < A0)=true:=decide_eq_true c3
          clear c3
          obtain ⟨y101,hy101⟩:∃ y_:List Int,y_=(([(wrap64 (48 + (Int.tmod A0 10))) % 256]:List Int)):=⟨_,rfl⟩
          replace H:(if (strOfNums y101).size + A1.size≤9223372036854775807 then (laws_markText.l0 k1 (wrap64 (Int.tdiv A0 10)) ((strOfNums y101) ++ A1)) else (none))=some r:=by first|(rw [hy101];with_reducible exact H)|(have H2_:=(Option.bind_some _ _).symm.trans H;rw [hy101];with_reducible exact H2_)|(have H2_:=(Option.bind_some _ _).symm.trans H;with_reducible exact H2_)|with_reducible exact H|(rw [hy101];exact H)|exact H
          have Ny101:=Aside0.mk hy101
          clear hy101
          by_cases c4:(strOfNums y101).size + A1.size≤9223372036854775807
          · rw [if_pos c4] at H
            have c4b0:=eq_true c4
            have c4b1:decide ((strOfNums y101).size + A1.size≤9223372036854775807)=true:=decide_eq_true c4
            try have c4b2:(9223372036854775807 < (strOfNums y101).size + A1.size)=False:=eq_false (Nat.not_lt.2 c4)
            have H':=Aside0.mk H
            clear H
            go_wp2_with (first|((with_reducible refine gate_dst (N:=12) rfl ?_);refine Kd.R_lit (Kd.int .u8) _ 5 ?hg (N:=12) ?hd (xs:=([(wrap64 (48 + (Int.tmod A0 10))) % 256]:List Int)) (inner:=[.int .u8 ((wrap64 (48 + (Int.tmod A0 10))) % 256)]) (ok:=fun _=>True) (okp:=fun _=>True) ?hr ?hp (fun _ hk=>hk) trivial (Below.refl _ _) (Nat.le_refl _) (by simp) ?_;(case hd=>rfl);(case hg=>rfl);(case hr=>first|(go_simp;done)|(go_simp;rfl));(case hp=>exact (Reps.one (show Kd.M (Kd.int .u8) _ _ _ ((wrap64 (48 + (Int.tmod A0 10))) % 256) [.int .u8 ((wrap64 (48 + (Int.tmod A0 10))) % 256)] from rfl) (Reps.none _ _)));intro v102 w5 ho6 hb hg_ hnew_;clear hg_ hnew_;(first|rw [← Ny101.out] at ho6|(simp only [Int.reduceToNat] at ho6;rw [← Ny101.out] at ho6));have A2:=Aside0.mk (Kd.R_lower ho6 (below_size (tb HB)));replace HB:=Aside0.mk (below_step (tb HB) hb);clear hb ho6;have hcv7:=own_string (P:=Try.prog) Try.underlying57 Try.underlying5 Try.underlying9 (Kd.own_of_R A2.out)))
            go_roundg k1
            case measure=>have:=HK1.out;omega
            case rel=>exact ⟨(wrap64 (Int.tdiv A0 10)),((strOfNums y101) ++ A1),(by first|rfl|(simp;done)|(simp [*];done)),(by first|rfl|(simp;done)|(simp [*];done)),H',⟨by have:=HK1.out;omega⟩,⟨by exact tb HB⟩⟩
          · rw [if_neg c4] at H
            exact absurd H (by simp)
        · rw [if_neg c3] at H
          have c3b0:decide (0 < A0)=false:=decide_eq_false c3
          clear c3
          by_cases c8:1 + A1.size≤9223372036854775807
          · rw [if_pos c8] at H
            have c8b0:=eq_true c8
            have c8b1:decide (1 + A1.size≤9223372036854775807)=true:=decide_eq_true c8
            try have c8b2:(9223372036854775807 < 1 + A1.size)=False:=eq_false (Nat.not_lt.2 c8)
            obtain rfl:=Option.some.inj H
            go_wp2
            go_ret
            exact ⟨er,tb HB⟩
          · rw [if_neg c8] at H
            exact absurd H (by simp)
end Go.Proofs.Ytlpfmhikahlcoaa.G
namespace Go.Proofs.Ytlpfmhikahlcoaa.G
open Go.Proofs.Ytlpfmhikahlcoaa.Sh Go.RowKit Go.Proofs.YtlpfmhikahlcoaaW.PrintWords Go.Proofs.YtlpfmhikahlcoaaW.PrintLast Go.Proofs.YtlpfmhikahlcoaaW.PrintMore
attribute [local go_sem] max2_int min2_int max_two min_two max_three min_three max_four min_four
set_option linter.unusedVariables false
set_option linter.unusedSimpArgs false
def laws_heldSeenS.l0:Nat→List (S86)→Int→Int→Option (Int)
  | 0,_,_,_=>none
  | k + 1,x0,x1,x5=>if x5 < (x0.length:Int) then (if 0≤x5 then ((laws_markText.f k x1).bind fun A3=>(if ((rd_T86 x0 x5).f0).toList=A3.toList then (if ((rd_T86 x0 x5).f1)=(wrap64 (x1 + 1)) then (laws_heldSeenS.l0 k x0 (wrap64 ((wrap64 (x1 + 1)) + 1)) (wrap64 (x5 + 1))) else (some (-1))) else (some (-1)))) else (none)) else (some x1)
def laws_heldSeenS.f (k:Nat) (l0:List (S86)) (a1:Int):Option (Int):=laws_heldSeenS.l0 k l0 a1 0
def laws_heldSeenS.T4:Bool × List (List Nat × List Nat):=(true,[([],[]),([],[]),([0,1],[0,1]),([2],[2]),([3],[3]),([],[]),([5],[5]),([4,6],[4,6])])
def laws_heldSeenS.B4:List Nat:=[0,0,3,7,15,0,32,127]
theorem laws_heldSeenS.tab4:rtab .any (opsOf Try.f71 4)=laws_heldSeenS.T4:=by kernel_rfl
theorem laws_heldSeenS.bits4:waitsOk laws_heldSeenS.T4.2 laws_heldSeenS.B4=true:=by kernel_rfl
set_option maxHeartbeats 80000000 in
set_option maxRecDepth 100000 in
theorem laws_heldSeenS.calls (k:Nat) (A0:Option Addr) (c0:Nat) (l0:List (S86)) (a1:Int) (r:Int) (w:World) (hr0:Kd.C k86 w A0 l0.length l0) (hc0:l0.length≤c0) (h:laws_heldSeenS.f k l0 a1=some r) :
  Calls Try.prog 71 #[.slice A0 l0.length c0,.int .i64 a1] w fun e w'=>e = .returned (.int .i64 r)∧Below w.heap.size w w':=by
 have HR0:=Aside0.mk hr0;have HC0:=Aside0.mk hc0;clear hr0 hc0;have HB:=Aside0.mk (Below.refl w.heap.size w);have H:(laws_heldSeenS.l0 k l0 a1 0)=some r:=h;clear h
 have H':=Aside0.mk H
 clear H
 go_enter Try.func71,Try.ntmps71
 go_wp2
 go_loopg [1,5] k (fun kq v1 v5 w'=>∃ (A2:Int) (A1:Int),v1 = .int .i64 A2∧v5 = .int .i64 A1∧Aside0 (laws_heldSeenS.l0 kq l0 A2 A1=some r)∧Aside0 (kq≤k)∧Aside0 (Below w.heap.size w w'))
 case atStart=>exact ⟨(a1),(0),(by first|rfl|(simp;done)|(simp [*];done)),(by first|rfl|(simp;done)|(simp [*];done)),H',⟨Nat.le_refl _⟩,⟨by exact tb HB⟩⟩
 case round =>
  clear H'
  (try clear p2)
  obtain ⟨A2,A1,rfl,rfl,HA,HK1,HB⟩:=hrel
  cases gk with
    | zero=>exact absurd HA.out (by simp [laws_heldSeenS.l0])
    | succ k1 =>
   have H:=HA.out;clear HA
   simp only [laws_heldSeenS.l0] at H
   by_cases c3:A1 < (l0.length:Int)
   ·rw [if_pos c3] at H
    have c3b0:decide (A1 < (l0.length:Int))=true:=decide_eq_true c3;clear c3
    by_cases c4:0≤A1
    ·rw [if_pos c4] at H
     have c4b0:decide (0≤A1)=true:=decide_eq_true c4;clear c4
     replace H:=Option.bind_eq_some_iff.mp H
     obtain ⟨A3,A50,H⟩:=H
     replace H:(if ((rd_T86 l0 A1).f0).toList=A3.toList then (if ((rd_T86 l0 A1).f1)=(wrap64 (A2 + 1)) then (laws_heldSeenS.l0 k1 l0 (wrap64 ((wrap64 (A2 + 1)) + 1)) (wrap64 (A1 + 1))) else (some (-1))) else (some (-1)))=some r:=H
     have A5:=Aside0.mk A50;clear A50
     by_cases c6:((rd_T86 l0 A1).f0).toList=A3.toList
     ·rw [if_pos c6] at H
      have c6b0:(((rd_T86 l0 A1).f0).toList == A3.toList)=true:=beq_iff_eq.mpr c6;have c6b1:(((rd_T86 l0 A1).f0).toList != A3.toList)=false:=bne_eq_false_iff_eq.mpr c6;clear c6
      by_cases c7:((rd_T86 l0 A1).f1)=(wrap64 (A2 + 1))
      ·rw [if_pos c7] at H
       have c7b0:(((rd_T86 l0 A1).f1) == (wrap64 (A2 + 1)))=true:=beq_iff_eq.mpr c7;have c7b1:(((rd_T86 l0 A1).f1) != (wrap64 (A2 + 1)))=false:=bne_eq_false_iff_eq.mpr c7;clear c7
       have H':=Aside0.mk H
       clear H
       try go_wp2
       replace HB:=Aside0.mk (below_drew1 HB.out)
       have p101:0≤(A1:Int):=od
       have q101:A1 < (l0.length:Int):=od
       obtain ⟨ad101,e101,hx101_0,hx101_1⟩:=at_T86 HR0.out A1 p101 q101
       have hw101_1:=hx101_1;have hw101_0:=hx101_0
       cases e101
       replace hx101_0:=(HB.out.cell (World.block_lt_of_cell? w _ hx101_0)).trans hx101_0
       replace hx101_1:=(HB.out.cell (World.block_lt_of_cell? w _ hx101_1)).trans hx101_1
       replace p101:=eq_true p101
       replace q101:=eq_true q101
       refine start_ (n:=8) (S:=fun w'=>w'.cell? (ad101.add ((A1).toNat * 2))=some (.string ((rd_T86 l0 A1).f0))∧w'.cell? ⟨(ad101.add ((A1).toNat * 2)).block,(ad101.add ((A1).toNat * 2)).off + 1,none⟩=some (.int .i64 ((rd_T86 l0 A1).f1))) (ds:=[]) #[false,false,false,false,false,false,false,false] (by kernel_rfl) rfl rfl ⟨((HB.out.cell (World.block_lt_of_cell? w _ hw101_0)).trans hw101_0),((HB.out.cell (World.block_lt_of_cell? w _ hw101_1)).trans hw101_1)⟩ (fun hHeld=>?_);refine with_tabW laws_heldSeenS.tab4 laws_heldSeenS.bits4 (fun HT_ HW_=>?_)
       generalize wr.drew=w8 at HB hx101_0 hx101_1 hHeld ⊢
       refine pure_ (i:=0) (N:=some 12) (v:=?_) (a':=?_) #[true,false,false,false,false,false,false,false] rfl rfl (any_of HT_.out (by kernel_rfl)) (fun _ _ _ h=>h) (Or.inl ⟨by rfl,?_⟩) ?_ ?_
       rotate_left
       ·intro w'
        go_simp
        with_reducible rfl
       rotate_left
       ·simp only [Act.put,List.setIfInBounds_toArray,List.set_cons_zero,List.set_cons_succ,i64_w,i32_w]
        rfl
       refine pure_ (i:=1) (N:=some 13) (v:=?_) (a':=?_) #[true,true,false,false,false,false,false,false] rfl rfl (any_of HT_.out (by kernel_rfl)) (fun _ _ _ h=>h) (Or.inl ⟨by rfl,?_⟩) ?_ ?_
       rotate_left
       ·intro w'
        go_simp
        with_reducible rfl
       rotate_left
       ·simp only [Act.put,List.setIfInBounds_toArray,List.set_cons_zero,List.set_cons_succ,i64_w,i32_w]
        rfl
       refine pure_ (i:=2) (N:=some 14) (v:=?_) (a':=?_) #[true,true,true,false,false,false,false,false] rfl rfl (any_of HT_.out (by kernel_rfl)) (fun _ _ _ h=>h) (Or.inl ⟨by rfl,?_⟩) ?_ ?_
       rotate_left
       ·intro w'
        go_simp
        with_reducible rfl
       rotate_left
       ·simp only [Act.put,List.setIfInBounds_toArray,List.set_cons_zero,List.set_cons_succ,i64_w,i32_w]
        rfl
       refine pure_ (i:=3) (N:=some 15) (v:=?_) (a':=?_) #[true,true,true,true,false,false,false,false] rfl rfl (any_of HT_.out (by kernel_rfl)) (fun _ _ _ h=>h) (Or.inl ⟨by rfl,?_⟩) ?_ ?_
       rotate_left
       ·intro w'
        go_simp
        with_reducible rfl
       rotate_left
       ·simp only [Act.put,List.setIfInBounds_toArray,List.set_cons_zero,List.set_cons_succ,i64_w,i32_w]
        rfl
       refine pure_ (i:=5) (N:=some 17) (v:=?_) (a':=?_) #[true,true,true,true,false,true,false,false] rfl rfl (any_of HT_.out (by kernel_rfl)) (fun _ _ _ h=>h) (Or.inl ⟨by rfl,?_⟩) ?_ ?_
       rotate_left
       ·intro w'
        go_simp
        with_reducible rfl
       rotate_left
       ·simp only [Act.put,List.setIfInBounds_toArray,List.set_cons_zero,List.set_cons_succ,i64_w,i32_w]
        rfl
       refine take_ (i:=4) (N:=some 16) (v:=?_) (a':=?_) #[true,true,true,true,true,true,false,false] rfl rfl (take_ofW HT_.out HW_.out (by kernel_rfl)) (fun _ _ _ h=>h) (Or.inl ⟨by rfl,?_⟩) hHeld ?_ ?_
       rotate_left
       ·rintro w' ⟨s0,s1⟩
        go_simp
        with_reducible rfl
       rotate_left
       ·simp only [Act.put,List.setIfInBounds_toArray,List.set_cons_zero,List.set_cons_succ,i64_w,i32_w]
        rfl
       refine one_ (i:=6) (N:=some 18) #[true,true,true,true,true,true,true,false] rfl rfl (one_of HT_.out (by kernel_rfl)) (by decide) (fun K hK=>?_)
       refine goes_ Try.func110 (by kernel_rfl) rfl #[.int .i64 A2] (by rfl) rfl rfl ml ?_
       with_reducible refine (laws_markText.calls k1 A2 A3 _ A5.out).mono ?_
       rintro e w9 ⟨rfl,hb⟩
       refine ⟨_,rfl,?_⟩
       replace HB:=bs0 HB hb
       (try clear hb)
       (try clear hb2)
       (try clear hk)
       (try clear hi)
       refine hK.out _ _ ⟨((HB.out.cell (World.block_lt_of_cell? w _ hw101_0)).trans hw101_0),((HB.out.cell (World.block_lt_of_cell? w _ hw101_1)).trans hw101_1)⟩ (fun hHeld=>?_)
       clear hK K
       refine norm_ (a':=?_) ?_ ?_
       rotate_left
       ·show Act.put _ (some 18) _=_
        simp only [Act.put,List.setIfInBounds_toArray,List.set_cons_zero,List.set_cons_succ,i64_w,i32_w]
        rfl
       refine pure_ (i:=7) (N:=some 19) (v:=?_) (a':=?_) #[true,true,true,true,true,true,true,true] rfl rfl (any_of HT_.out (by kernel_rfl)) (fun _ _ _ h=>h) (Or.inl ⟨by rfl,?_⟩) ?_ ?_
       rotate_left
       ·intro w'
        go_simp
        with_reducible rfl
       rotate_left
       ·simp only [Act.put,List.setIfInBounds_toArray,List.set_cons_zero,List.set_cons_succ,i64_w,i32_w]
        rfl
       refine done_ (done_of HT_.out (by kernel_rfl)) ?_
       have p103:0≤(A1:Int):=od
       have q103:A1 < (l0.length:Int):=od
       obtain ⟨ad103,e103,hx103_0,hx103_1⟩:=at_T86 HR0.out A1 p103 q103
       obtain rfl:ad101=ad103:=(by injection e103)
       replace hx103_0:=(HB.out.cell (World.block_lt_of_cell? w _ hx103_0)).trans hx103_0
       replace hx103_1:=(HB.out.cell (World.block_lt_of_cell? w _ hx103_1)).trans hx103_1
       replace p103:=eq_true p103
       replace q103:=eq_true q103
       try go_wp2
       go_roundg k1
       case measure=>have:=HK1.out;omega
       case rel=>exact ⟨(wrap64 ((wrap64 (A2 + 1)) + 1)),(wrap64 (A1 + 1)),(by first|rfl|(simp;done)|(simp [*];done)),(by first|rfl|(simp;done)|(simp [*];done)),H',⟨by have:=HK1.out;omega⟩,⟨by exact tb HB⟩⟩
      ·rw [if_neg c7] at H
       have c7b0:(((rd_T86 l0 A1).f1) == (wrap64 (A2 + 1)))=false:=beq_eq_false_iff_ne.mpr c7;have c7b1:(((rd_T86 l0 A1).f1) != (wrap64 (A2 + 1)))=true:=bne_iff_ne.mpr c7
       obtain rfl:=Option.some.inj H
       try go_wp2
       replace HB:=Aside0.mk (below_drew1 HB.out)
       have p101:0≤(A1:Int):=od
       have q101:A1 < (l0.length:Int):=od
       obtain ⟨ad101,e101,hx101_0,hx101_1⟩:=at_T86 HR0.out A1 p101 q101
       have hw101_1:=hx101_1;have hw101_0:=hx101_0
       cases e101
       replace hx101_0:=(HB.out.cell (World.block_lt_of_cell? w _ hx101_0)).trans hx101_0
       replace hx101_1:=(HB.out.cell (World.block_lt_of_cell? w _ hx101_1)).trans hx101_1
       replace p101:=eq_true p101
       replace q101:=eq_true q101
       refine start_ (n:=8) (S:=fun w'=>w'.cell? (ad101.add ((A1).toNat * 2))=some (.string ((rd_T86 l0 A1).f0))∧w'.cell? ⟨(ad101.add ((A1).toNat * 2)).block,(ad101.add ((A1).toNat * 2)).off + 1,none⟩=some (.int .i64 ((rd_T86 l0 A1).f1))) (ds:=[]) #[false,false,false,false,false,false,false,false] (by kernel_rfl) rfl rfl ⟨((HB.out.cell (World.block_lt_of_cell? w _ hw101_0)).trans hw101_0),((HB.out.cell (World.block_lt_of_cell? w _ hw101_1)).trans hw101_1)⟩ (fun hHeld=>?_);refine with_tabW laws_heldSeenS.tab4 laws_heldSeenS.bits4 (fun HT_ HW_=>?_)
       generalize wr.drew=w10 at HB hx101_0 hx101_1 hHeld ⊢
       refine pure_ (i:=0) (N:=some 12) (v:=?_) (a':=?_) #[true,false,false,false,false,false,false,false] rfl rfl (any_of HT_.out (by kernel_rfl)) (fun _ _ _ h=>h) (Or.inl ⟨by rfl,?_⟩) ?_ ?_
       rotate_left
       ·intro w'
        go_simp
        with_reducible rfl
       rotate_left
       ·simp only [Act.put,List.setIfInBounds_toArray,List.set_cons_zero,List.set_cons_succ,i64_w,i32_w]
        rfl
       refine pure_ (i:=1) (N:=some 13) (v:=?_) (a':=?_) #[true,true,false,false,false,false,false,false] rfl rfl (any_of HT_.out (by kernel_rfl)) (fun _ _ _ h=>h) (Or.inl ⟨by rfl,?_⟩) ?_ ?_
       rotate_left
       ·intro w'
        go_simp
        with_reducible rfl
       rotate_left
       ·simp only [Act.put,List.setIfInBounds_toArray,List.set_cons_zero,List.set_cons_succ,i64_w,i32_w]
        rfl
       refine pure_ (i:=2) (N:=some 14) (v:=?_) (a':=?_) #[true,true,true,false,false,false,false,false] rfl rfl (any_of HT_.out (by kernel_rfl)) (fun _ _ _ h=>h) (Or.inl ⟨by rfl,?_⟩) ?_ ?_
       rotate_left
       ·intro w'
        go_simp
        with_reducible rfl
       rotate_left
       ·simp only [Act.put,List.setIfInBounds_toArray,List.set_cons_zero,List.set_cons_succ,i64_w,i32_w]
        rfl
       refine pure_ (i:=3) (N:=some 15) (v:=?_) (a':=?_) #[true,true,true,true,false,false,false,false] rfl rfl (any_of HT_.out (by kernel_rfl)) (fun _ _ _ h=>h) (Or.inl ⟨by rfl,?_⟩) ?_ ?_
       rotate_left
       ·intro w'
        go_simp
        with_reducible rfl
       rotate_left
       ·simp only [Act.put,List.setIfInBounds_toArray,List.set_cons_zero,List.set_cons_succ,i64_w,i32_w]
        rfl
       refine pure_ (i:=5) (N:=some 17) (v:=?_) (a':=?_) #[true,true,true,true,false,true,false,false] rfl rfl (any_of HT_.out (by kernel_rfl)) (fun _ _ _ h=>h) (Or.inl ⟨by rfl,?_⟩) ?_ ?_
       rotate_left
       ·intro w'
        go_simp
        with_reducible rfl
       rotate_left
       ·simp only [Act.put,List.setIfInBounds_toArray,List.set_cons_zero,List.set_cons_succ,i64_w,i32_w]
        rfl
       refine take_ (i:=4) (N:=some 16) (v:=?_) (a':=?_) #[true,true,true,true,true,true,false,false] rfl rfl (take_ofW HT_.out HW_.out (by kernel_rfl)) (fun _ _ _ h=>h) (Or.inl ⟨by rfl,?_⟩) hHeld ?_ ?_
       rotate_left
       ·rintro w' ⟨s0,s1⟩
        go_simp
        with_reducible rfl
       rotate_left
       ·simp only [Act.put,List.setIfInBounds_toArray,List.set_cons_zero,List.set_cons_succ,i64_w,i32_w]
        rfl
       refine one_ (i:=6) (N:=some 18) #[true,true,true,true,true,true,true,false] rfl rfl (one_of HT_.out (by kernel_rfl)) (by decide) (fun K hK=>?_)
       refine goes_ Try.func110 (by kernel_rfl) rfl #[.int .i64 A2] (by rfl) rfl rfl ml ?_
       with_reducible refine (laws_markText.calls k1 A2 A3 _ A5.out).mono ?_
       rintro e w11 ⟨rfl,hb⟩
       refine ⟨_,rfl,?_⟩
       replace HB:=bs0 HB hb
       (try clear hb)
       (try clear hb2)
       (try clear hk)
       (try clear hi)
       refine hK.out _ _ ⟨((HB.out.cell (World.block_lt_of_cell? w _ hw101_0)).trans hw101_0),((HB.out.cell (World.block_lt_of_cell? w _ hw101_1)).trans hw101_1)⟩ (fun hHeld=>?_)
       clear hK K
       refine norm_ (a':=?_) ?_ ?_
       rotate_left
       ·show Act.put _ (some 18) _=_
        simp only [Act.put,List.setIfInBounds_toArray,List.set_cons_zero,List.set_cons_succ,i64_w,i32_w]
        rfl
       refine pure_ (i:=7) (N:=some 19) (v:=?_) (a':=?_) #[true,true,true,true,true,true,true,true] rfl rfl (any_of HT_.out (by kernel_rfl)) (fun _ _ _ h=>h) (Or.inl ⟨by rfl,?_⟩) ?_ ?_
       rotate_left
       ·intro w'
        go_simp
        with_reducible rfl
       rotate_left
       ·simp only [Act.put,List.setIfInBounds_toArray,List.set_cons_zero,List.set_cons_succ,i64_w,i32_w]
        rfl
       refine done_ (done_of HT_.out (by kernel_rfl)) ?_
       have p103:0≤(A1:Int):=od
       have q103:A1 < (l0.length:Int):=od
       obtain ⟨ad103,e103,hx103_0,hx103_1⟩:=at_T86 HR0.out A1 p103 q103
       obtain rfl:ad101=ad103:=(by injection e103)
       replace hx103_0:=(HB.out.cell (World.block_lt_of_cell? w _ hx103_0)).trans hx103_0
       replace hx103_1:=(HB.out.cell (World.block_lt_of_cell? w _ hx103_1)).trans hx103_1
       replace p103:=eq_true p103
       replace q103:=eq_true q103
       try go_wp2
       go_ret
       exact ⟨er,tb HB⟩
     ·rw [if_neg c6] at H
      have c6b0:(((rd_T86 l0 A1).f0).toList == A3.toList)=false:=beq_eq_false_iff_ne.mpr c6;have c6b1:(((rd_T86 l0 A1).f0).toList != A3.toList)=true:=bne_iff_ne.mpr c6
      obtain rfl:=Option.some.inj H
      try go_wp2
      replace HB:=Aside0.mk (below_drew1 HB.out)
      have p101:0≤(A1:Int):=od
      have q101:A1 < (l0.length:Int):=od
      obtain ⟨ad101,e101,hx101_0,hx101_1⟩:=at_T86 HR0.out A1 p101 q101
      have hw101_1:=hx101_1;have hw101_0:=hx101_0
      cases e101
      replace hx101_0:=(HB.out.cell (World.block_lt_of_cell? w _ hx101_0)).trans hx101_0
      replace hx101_1:=(HB.out.cell (World.block_lt_of_cell? w _ hx101_1)).trans hx101_1
      replace p101:=eq_true p101
      replace q101:=eq_true q101
      refine start_ (n:=8) (S:=fun w'=>w'.cell? (ad101.add ((A1).toNat * 2))=some (.string ((rd_T86 l0 A1).f0))∧w'.cell? ⟨(ad101.add ((A1).toNat * 2)).block,(ad101.add ((A1).toNat * 2)).off + 1,none⟩=some (.int .i64 ((rd_T86 l0 A1).f1))) (ds:=[]) #[false,false,false,false,false,false,false,false] (by kernel_rfl) rfl rfl ⟨((HB.out.cell (World.block_lt_of_cell? w _ hw101_0)).trans hw101_0),((HB.out.cell (World.block_lt_of_cell? w _ hw101_1)).trans hw101_1)⟩ (fun hHeld=>?_);refine with_tabW laws_heldSeenS.tab4 laws_heldSeenS.bits4 (fun HT_ HW_=>?_)
      generalize wr.drew=w12 at HB hx101_0 hx101_1 hHeld ⊢
      refine pure_ (i:=0) (N:=some 12) (v:=?_) (a':=?_) #[true,false,false,false,false,false,false,false] rfl rfl (any_of HT_.out (by kernel_rfl)) (fun _ _ _ h=>h) (Or.inl ⟨by rfl,?_⟩) ?_ ?_
      rotate_left
      ·intro w'
       go_simp
       with_reducible rfl
      rotate_left
      ·simp only [Act.put,List.setIfInBounds_toArray,List.set_cons_zero,List.set_cons_succ,i64_w,i32_w]
       rfl
      refine pure_ (i:=1) (N:=some 13) (v:=?_) (a':=?_) #[true,true,false,false,false,false,false,false] rfl rfl (any_of HT_.out (by kernel_rfl)) (fun _ _ _ h=>h) (Or.inl ⟨by rfl,?_⟩) ?_ ?_
      rotate_left
      ·intro w'
       go_simp
       with_reducible rfl
      rotate_left
      ·simp only [Act.put,List.setIfInBounds_toArray,List.set_cons_zero,List.set_cons_succ,i64_w,i32_w]
       rfl
      refine pure_ (i:=2) (N:=some 14) (v:=?_) (a':=?_) #[true,true,true,false,false,false,false,false] rfl rfl (any_of HT_.out (by kernel_rfl)) (fun _ _ _ h=>h) (Or.inl ⟨by rfl,?_⟩) ?_ ?_
      rotate_left
      ·intro w'
       go_simp
       with_reducible rfl
      rotate_left
      ·simp only [Act.put,List.setIfInBounds_toArray,List.set_cons_zero,List.set_cons_succ,i64_w,i32_w]
       rfl
      refine pure_ (i:=3) (N:=some 15) (v:=?_) (a':=?_) #[true,true,true,true,false,false,false,false] rfl rfl (any_of HT_.out (by kernel_rfl)) (fun _ _ _ h=>h) (Or.inl ⟨by rfl,?_⟩) ?_ ?_
      rotate_left
      ·intro w'
       go_simp
       with_reducible rfl
      rotate_left
      ·simp only [Act.put,List.setIfInBounds_toArray,List.set_cons_zero,List.set_cons_succ,i64_w,i32_w]
       rfl
      refine pure_ (i:=5) (N:=some 17) (v:=?_) (a':=?_) #[true,true,true,true,false,true,false,false] rfl rfl (any_of HT_.out (by kernel_rfl)) (fun _ _ _ h=>h) (Or.inl ⟨by rfl,?_⟩) ?_ ?_
      rotate_left
      ·intro w'
       go_simp
       with_reducible rfl
      rotate_left
      ·simp only [Act.put,List.setIfInBounds_toArray,List.set_cons_zero,List.set_cons_succ,i64_w,i32_w]
       rfl
      refine take_ (i:=4) (N:=some 16) (v:=?_) (a':=?_) #[true,true,true,true,true,true,false,false] rfl rfl (take_ofW HT_.out HW_.out (by kernel_rfl)) (fun _ _ _ h=>h) (Or.inl ⟨by rfl,?_⟩) hHeld ?_ ?_
      rotate_left
      ·rintro w' ⟨s0,s1⟩
       go_simp
       with_reducible rfl
      rotate_left
      ·simp only [Act.put,List.setIfInBounds_toArray,List.set_cons_zero,List.set_cons_succ,i64_w,i32_w]
       rfl
      refine one_ (i:=6) (N:=some 18) #[true,true,true,true,true,true,true,false] rfl rfl (one_of HT_.out (by kernel_rfl)) (by decide) (fun K hK=>?_)
      refine goes_ Try.func110 (by kernel_rfl) rfl #[.int .i64 A2] (by rfl) rfl rfl ml ?_
      with_reducible refine (laws_markText.calls k1 A2 A3 _ A5.out).mono ?_
      rintro e w13 ⟨rfl,hb⟩
      refine ⟨_,rfl,?_⟩
      replace HB:=bs0 HB hb
      (try clear hb)
      (try clear hb2)
      (try clear hk)
      (try clear hi)
      refine hK.out _ _ ⟨((HB.out.cell (World.block_lt_of_cell? w _ hw101_0)).trans hw101_0),((HB.out.cell (World.block_lt_of_cell? w _ hw101_1)).trans hw101_1)⟩ (fun hHeld=>?_)
      clear hK K
      refine norm_ (a':=?_) ?_ ?_
      rotate_left
      ·show Act.put _ (some 18) _=_
       simp only [Act.put,List.setIfInBounds_toArray,List.set_cons_zero,List.set_cons_succ,i64_w,i32_w]
       rfl
      refine pure_ (i:=7) (N:=some 19) (v:=?_) (a':=?_) #[true,true,true,true,true,true,true,true] rfl rfl (any_of HT_.out (by kernel_rfl)) (fun _ _ _ h=>h) (Or.inl ⟨by rfl,?_⟩) ?_ ?_
      rotate_left
      ·intro w'
       go_simp
       with_reducible rfl
      rotate_left
      ·simp only [Act.put,List.setIfInBounds_toArray,List.set_cons_zero,List.set_cons_succ,i64_w,i32_w]
       rfl
      refine done_ (done_of HT_.out (by kernel_rfl)) ?_
      try go_wp2
      go_ret
      exact ⟨er,tb HB⟩
    ·rw [if_neg c4] at H
     exact absurd H (by simp)
   ·rw [if_neg c3] at H
    have c3b0:decide (A1 < (l0.length:Int))=false:=decide_eq_false c3;clear c3
    obtain rfl:=Option.some.inj H
    go_wp2
    go_ret
    exact ⟨er,tb HB⟩
def laws_heldMachine.f (k:Nat) (A5:List Bool) (Ag:Int) (Ah:ByteArray) (Ai:Int) (A6:List Int) (Aj:Int) (Ak:Bool) (Al:Int) (Am:Int) (An:Int) (A0:List (S86)) (a1:Int):Option (Int):=(laws_heldBoolS.f k A5 a1).bind fun A2=>(if A2 < 0 then (some (-1)) else ((laws_heldIntS.f k A6 A2).bind fun A4=>(if A4 < 0 then (some (-1)) else ((laws_heldSeenS.f k A0 A4).bind fun A8=>(if A8 < 0 then (some (-1)) else (some A8))))))
set_option maxHeartbeats 80000000 in
set_option maxRecDepth 100000 in
theorem laws_heldMachine.calls (k:Nat) (Ab:Option Addr) (Ac:Nat) (A5:List Bool) (Ag:Int) (Ah:ByteArray) (Ai:Int) (Ad:Option Addr) (Ae:Nat) (A6:List Int) (Aj:Int) (Ak:Bool) (Al:Int) (Am:Int) (An:Int) (A9:Option Addr) (Aa:Nat) (A0:List (S86)) (a1:Int) (r:Int) (w:World) (hr0_0:Kd.C Kd.bool w Ab A5.length A5) (hc0_0:A5.length≤Ac) (hr0_4:Kd.C (Kd.int .i64) w Ad A6.length A6) (hc0_4:A6.length≤Ae) (hr0_10:Kd.C k86 w A9 A0.length A0) (hc0_10:A0.length≤Aa) (h:laws_heldMachine.f k A5 Ag Ah Ai A6 Aj Ak Al Am An A0 a1=some r) :
  Calls Try.prog 28 #[.agg #[.slice Ab A5.length Ac,.int .i64 Ag,.string Ah,.int .i64 Ai,.slice Ad A6.length Ae,.int .i64 Aj,.bool Ak,.int .i64 Al,.int .i64 Am,.int .i64 An,.slice A9 A0.length Aa],.int .i64 a1] w fun e w'=>e = .returned (.int .i64 r)∧Below w.heap.size w w':=by
 have hu36:=Try.underlying36;have Ao:=Aside0.mk hr0_0;have Ap:=Aside0.mk hc0_0;clear hr0_0 hc0_0;have Aq:=Aside0.mk hr0_4;have Ar:=Aside0.mk hc0_4;clear hr0_4 hc0_4;have As:=Aside0.mk hr0_10;have At:=Aside0.mk hc0_10;clear hr0_10 hc0_10;have HB:=Aside0.mk (Below.refl w.heap.size w)
 have H:((laws_heldBoolS.f k A5 a1).bind fun A2=>(if A2 < 0 then (some (-1)) else ((laws_heldIntS.f k A6 A2).bind fun A4=>(if A4 < 0 then (some (-1)) else ((laws_heldSeenS.f k A0 A4).bind fun A8=>(if A8 < 0 then (some (-1)) else (some A8)))))))=some r:=h
 clear h
 replace H:=Option.bind_eq_some_iff.mp H
 obtain ⟨A2,A30,H⟩:=H
 replace H:(if A2 < 0 then (some (-1)) else ((laws_heldIntS.f k A6 A2).bind fun A4=>(if A4 < 0 then (some (-1)) else ((laws_heldSeenS.f k A0 A4).bind fun A8=>(if A8 < 0 then (some (-1)) else (some A8))))))=some r:=H
 have A3:=Aside0.mk A30;clear A30
 by_cases c4:A2 < 0
 ·rw [if_pos c4] at H
  have c4b0:decide (A2 < 0)=true:=decide_eq_true c4;clear c4
  obtain rfl:=Option.some.inj H
  go_enter Try.func28,Try.ntmps28
  go_wp2_with (first|((with_reducible refine gate_dst (N:=2) rfl ?_);refine bx (N:=2) (cs:=#[.slice Ab A5.length Ac,.int .i64 Ag,.string Ah,.int .i64 Ai,.slice Ad A6.length Ae,.int .i64 Aj,.bool Ak,.int .i64 Al,.int .i64 Am,.int .i64 An,.slice A9 A0.length Aa]) (t:=36) ?_;intro Au hg w5 hbox hb;have A1:=Aside0.mk (hbox);have Av:=bz0 hg HB;have Af:=bz0 hg HB;replace HB:=bs0 HB hb;clear hb hbox hg;have hcz6__:=c11_ A1;have hfz6__:=f_ A1)|((with_reducible refine gate_callee (f:=69) rfl ?_);refine goesL_ (some 8) rfl rfl Try.func69 (by kernel_rfl) rfl #[.slice Ab A5.length Ac,.int .i64 a1] rfl ml ?_;(with_reducible refine (laws_heldBoolS.calls k _ _ A5 a1 A2 _ ?side1 ?side2 A3.out).mono ?_);(case side1=>exact cw (Kd.C_below Ao.out HB.out));(case side2=>exact Ap.out);rintro e w' ⟨rfl,⟨nd,rfl⟩⟩;refine ⟨_,rfl,?_⟩))
  go_ret
  exact ⟨er,tb HB⟩
 ·rw [if_neg c4] at H
  have c4b0:decide (A2 < 0)=false:=decide_eq_false c4;clear c4
  replace H:=Option.bind_eq_some_iff.mp H
  obtain ⟨A4,A70,H⟩:=H
  replace H:(if A4 < 0 then (some (-1)) else ((laws_heldSeenS.f k A0 A4).bind fun A8=>(if A8 < 0 then (some (-1)) else (some A8))))=some r:=H
  have A7:=Aside0.mk A70;clear A70
  by_cases c8:A4 < 0
  ·rw [if_pos c8] at H
   have c8b0:decide (A4 < 0)=true:=decide_eq_true c8;clear c8
   obtain rfl:=Option.some.inj H
   go_enter Try.func28,Try.ntmps28
   go_wp2_with (first|((with_reducible refine gate_dst (N:=2) rfl ?_);refine bx (N:=2) (cs:=#[.slice Ab A5.length Ac,.int .i64 Ag,.string Ah,.int .i64 Ai,.slice Ad A6.length Ae,.int .i64 Aj,.bool Ak,.int .i64 Al,.int .i64 Am,.int .i64 An,.slice A9 A0.length Aa]) (t:=36) ?_;intro Au hg w9 hbox hb;have A1:=Aside0.mk (hbox);have Av:=bz0 hg HB;have Af:=bz0 hg HB;replace HB:=bs0 HB hb;clear hb hbox hg;have hcz10__:=c11_ A1;have hfz10__:=f_ A1)|((with_reducible refine gate_callee (f:=69) rfl ?_);refine goesL_ (some 8) rfl rfl Try.func69 (by kernel_rfl) rfl #[.slice Ab A5.length Ac,.int .i64 a1] rfl ml ?_;(with_reducible refine (laws_heldBoolS.calls k _ _ A5 a1 A2 _ ?side1 ?side2 A3.out).mono ?_);(case side1=>exact cw (Kd.C_below Ao.out HB.out));(case side2=>exact Ap.out);rintro e w' ⟨rfl,⟨nd,rfl⟩⟩;refine ⟨_,rfl,?_⟩)|((with_reducible refine gate_callee (f:=70) rfl ?_);refine goesL_ (some 14) rfl rfl Try.func70 (by kernel_rfl) rfl #[.slice Ad A6.length Ae,.int .i64 A2] rfl ml ?_;(with_reducible refine (laws_heldIntS.calls k _ _ A6 A2 A4 _ ?side1 ?side2 A7.out).mono ?_);(case side1=>repeat (first|exact (Kd.C_below Aq.out (tb HB))|(with_reducible refine Kd.C_alloc ?_ _)|(with_reducible refine Kd.C_drewN ?_ _)|(with_reducible refine Kd.C_drew ?_)));(case side2=>exact Ar.out);rintro e w' ⟨rfl,⟨nd,rfl⟩⟩;refine ⟨_,rfl,?_⟩))
   go_ret
   exact ⟨er,tb HB⟩
  ·rw [if_neg c8] at H
   have c8b0:decide (A4 < 0)=false:=decide_eq_false c8;clear c8
   replace H:=Option.bind_eq_some_iff.mp H
   obtain ⟨A8,A110,H⟩:=H
   replace H:(if A8 < 0 then (some (-1)) else (some A8))=some r:=H
   have A11:=Aside0.mk A110;clear A110
   by_cases c12:A8 < 0
   ·rw [if_pos c12] at H
    have c12b0:decide (A8 < 0)=true:=decide_eq_true c12;clear c12
    obtain rfl:=Option.some.inj H
    go_enter Try.func28,Try.ntmps28
    go_wp2_with (first|((with_reducible refine gate_dst (N:=2) rfl ?_);refine bx (N:=2) (cs:=#[.slice Ab A5.length Ac,.int .i64 Ag,.string Ah,.int .i64 Ai,.slice Ad A6.length Ae,.int .i64 Aj,.bool Ak,.int .i64 Al,.int .i64 Am,.int .i64 An,.slice A9 A0.length Aa]) (t:=36) ?_;intro Au hg w13 hbox hb;have A1:=Aside0.mk (hbox);have Av:=bz0 hg HB;have Af:=bz0 hg HB;replace HB:=bs0 HB hb;clear hb hbox hg;have hcz14__:=c11_ A1;have hfz14__:=f_ A1)|((with_reducible refine gate_callee (f:=69) rfl ?_);refine goesL_ (some 8) rfl rfl Try.func69 (by kernel_rfl) rfl #[.slice Ab A5.length Ac,.int .i64 a1] rfl ml ?_;(with_reducible refine (laws_heldBoolS.calls k _ _ A5 a1 A2 _ ?side1 ?side2 A3.out).mono ?_);(case side1=>exact cw (Kd.C_below Ao.out HB.out));(case side2=>exact Ap.out);rintro e w' ⟨rfl,⟨nd,rfl⟩⟩;refine ⟨_,rfl,?_⟩)|((with_reducible refine gate_callee (f:=70) rfl ?_);refine goesL_ (some 14) rfl rfl Try.func70 (by kernel_rfl) rfl #[.slice Ad A6.length Ae,.int .i64 A2] rfl ml ?_;(with_reducible refine (laws_heldIntS.calls k _ _ A6 A2 A4 _ ?side1 ?side2 A7.out).mono ?_);(case side1=>repeat (first|exact (Kd.C_below Aq.out (tb HB))|(with_reducible refine Kd.C_alloc ?_ _)|(with_reducible refine Kd.C_drewN ?_ _)|(with_reducible refine Kd.C_drew ?_)));(case side2=>exact Ar.out);rintro e w' ⟨rfl,⟨nd,rfl⟩⟩;refine ⟨_,rfl,?_⟩)|((with_reducible refine gate_callee (f:=71) rfl ?_);refine goesL_ (some 20) rfl rfl Try.func71 (by kernel_rfl) rfl #[.slice A9 A0.length Aa,.int .i64 A4] rfl ml ?_;(with_reducible refine (laws_heldSeenS.calls k _ _ A0 A4 A8 _ ?side1 ?side2 A11.out).mono ?_);(case side1=>repeat (first|exact (Kd.C_below As.out (tb HB))|(with_reducible refine Kd.C_alloc ?_ _)|(with_reducible refine Kd.C_drewN ?_ _)|(with_reducible refine Kd.C_drew ?_)));(case side2=>exact At.out);rintro e w15 ⟨rfl,hb⟩;refine ⟨_,rfl,?_⟩;replace A1:=bb A1 hb;replace HB:=bs1 HB hb Af;(try clear hb);(try clear hb2);(try clear hk);(try clear hi)))
    go_ret
    exact ⟨er,tb HB⟩
   ·rw [if_neg c12] at H
    have c12b0:decide (A8 < 0)=false:=decide_eq_false c12;clear c12
    obtain rfl:=Option.some.inj H
    go_enter Try.func28,Try.ntmps28
    go_wp2_with (first|((with_reducible refine gate_dst (N:=2) rfl ?_);refine bx (N:=2) (cs:=#[.slice Ab A5.length Ac,.int .i64 Ag,.string Ah,.int .i64 Ai,.slice Ad A6.length Ae,.int .i64 Aj,.bool Ak,.int .i64 Al,.int .i64 Am,.int .i64 An,.slice A9 A0.length Aa]) (t:=36) ?_;intro Au hg w16 hbox hb;have A1:=Aside0.mk (hbox);have Av:=bz0 hg HB;have Af:=bz0 hg HB;replace HB:=bs0 HB hb;clear hb hbox hg;have hcz17__:=c11_ A1;have hfz17__:=f_ A1)|((with_reducible refine gate_callee (f:=69) rfl ?_);refine goesL_ (some 8) rfl rfl Try.func69 (by kernel_rfl) rfl #[.slice Ab A5.length Ac,.int .i64 a1] rfl ml ?_;(with_reducible refine (laws_heldBoolS.calls k _ _ A5 a1 A2 _ ?side1 ?side2 A3.out).mono ?_);(case side1=>exact cw (Kd.C_below Ao.out HB.out));(case side2=>exact Ap.out);rintro e w' ⟨rfl,⟨nd,rfl⟩⟩;refine ⟨_,rfl,?_⟩)|((with_reducible refine gate_callee (f:=70) rfl ?_);refine goesL_ (some 14) rfl rfl Try.func70 (by kernel_rfl) rfl #[.slice Ad A6.length Ae,.int .i64 A2] rfl ml ?_;(with_reducible refine (laws_heldIntS.calls k _ _ A6 A2 A4 _ ?side1 ?side2 A7.out).mono ?_);(case side1=>repeat (first|exact (Kd.C_below Aq.out (tb HB))|(with_reducible refine Kd.C_alloc ?_ _)|(with_reducible refine Kd.C_drewN ?_ _)|(with_reducible refine Kd.C_drew ?_)));(case side2=>exact Ar.out);rintro e w' ⟨rfl,⟨nd,rfl⟩⟩;refine ⟨_,rfl,?_⟩)|((with_reducible refine gate_callee (f:=71) rfl ?_);refine goesL_ (some 20) rfl rfl Try.func71 (by kernel_rfl) rfl #[.slice A9 A0.length Aa,.int .i64 A4] rfl ml ?_;(with_reducible refine (laws_heldSeenS.calls k _ _ A0 A4 A8 _ ?side1 ?side2 A11.out).mono ?_);(case side1=>repeat (first|exact (Kd.C_below As.out (tb HB))|(with_reducible refine Kd.C_alloc ?_ _)|(with_reducible refine Kd.C_drewN ?_ _)|(with_reducible refine Kd.C_drew ?_)));(case side2=>exact At.out);rintro e w18 ⟨rfl,hb⟩;refine ⟨_,rfl,?_⟩;replace A1:=bb A1 hb;replace HB:=bs1 HB hb Af;(try clear hb);(try clear hb2);(try clear hk);(try clear hi)))
    go_ret
    exact ⟨er,tb HB⟩
end Go.Proofs.Ytlpfmhikahlcoaa.G
namespace Go.Proofs.Ytlpfmhikahlcoaa.G
open Go.Proofs.Ytlpfmhikahlcoaa.Sh
open Go.RowKit Go.Proofs.YtlpfmhikahlcoaaW.PrintWords Go.Proofs.YtlpfmhikahlcoaaW.PrintLast Go.Proofs.YtlpfmhikahlcoaaW.PrintMore
attribute [local go_sem] max2_int min2_int max_two min_two max_three min_three max_four min_four
set_option linter.unusedVariables false
set_option linter.unusedSimpArgs false
def laws_markBoolS.l0:Nat→List Bool→Int→Int→Option (Int × List Bool)
  | 0,_,_,_=>none
  | k + 1,x0,x1,x5=>if x5 < (x0.length:Int) then (if 0≤x5 then (laws_markBoolS.l0 k (x0.set (x5:Int).toNat ((Int.tmod x1 3) == 0)) (wrap64 (x1 + 1)) (wrap64 (x5 + 1))) else (none)) else (some (x1,x0))
def laws_markBoolS.f (k:Nat) (l0:List Bool) (a1:Int):Option (Int × List Bool):=laws_markBoolS.l0 k l0 a1 0
set_option maxHeartbeats 8000000 in
set_option maxRecDepth 100000 in
theorem laws_markBoolS.calls (k:Nat) (P0_:Nat→Prop) (u9000_:Value) (l0:List Bool) (a1:Int) (r1:Int) (r2:List Bool) (w0 w:World) (hB:Below w0.heap.size w0 w) (ho0:Kd.R Kd.bool 4 w w0.heap.size P0_ u9000_ l0) (h:laws_markBoolS.f k l0 a1=some (r1,r2)) :
    Calls Try.prog 26 #[u9000_,.int .i64 a1] w fun e w'=>e = .returned (.int .i64 r1)∧Kd.R Kd.bool 4 w' w0.heap.size (fun k_=>(P0_ k_∨w.heap.size≤k_)) u9000_ r2∧Below w0.heap.size w0 w'∧Kept w w' (fun k_=>P0_ k_):=by
  have HO0:=Aside0.mk (show Kd.R Kd.bool 4 w w0.heap.size (fun k_=>(P0_ k_∨w.heap.size≤k_)) u9000_ l0 from Kd.R_mono ho0 (fun k_ hk=>(.inl hk)))
  have HK:=Aside0.mk (Kept.refl w (fun k_=>P0_ k_))
  have HW0:=Aside0.mk hB.size
  have HB:=Aside0.mk hB
  clear hB
  have H:(laws_markBoolS.l0 k l0 a1 0)=some (r1,r2):=h
  clear h
  have H':=Aside0.mk H
  clear H
  go_enter Try.func26,Try.ntmps26
  go_wp2
  go_loopg [1,5] k (fun kq v1 v5 w'=>∃ (A2:List Bool) (A3:Int) (A0:Int),v1 = .int .i64 A3∧v5 = .int .i64 A0∧Aside0 (laws_markBoolS.l0 kq A2 A3 A0=some (r1,r2))∧Aside0 (kq≤k)∧Aside0 (Kd.R Kd.bool 4 w' w0.heap.size (fun k_=>(P0_ k_∨w.heap.size≤k_)) u9000_ A2)∧Aside0 (Kept w w' (fun k_=>P0_ k_))∧Aside0 (Below w0.heap.size w0 w'))
  case atStart=>exact ⟨(l0),(a1),(0),(by first|rfl|(simp;done)|(simp [*];done)),(by first|rfl|(simp;done)|(simp [*];done)),H',⟨Nat.le_refl _⟩,⟨ra HO0⟩,⟨by exact tk HK⟩,⟨by exact tb HB⟩⟩
  case round =>
    clear H'
    try clear c2
    try clear p2
    obtain ⟨A2,A3,A0,rfl,rfl,HA,HK1,A1,HK,HB⟩:=hrel
    cases gk with
    | zero=>exact absurd HA.out (by simp [laws_markBoolS.l0])
    | succ k1 =>
      have H:=HA.out
      clear HA
      simp only [laws_markBoolS.l0] at H
      by_cases c3:A0 < (A2.length:Int)
      · rw [if_pos c3] at H
        have c3b0:decide (A0 < (A2.length:Int))=true:=decide_eq_true c3
        clear c3
        by_cases c4:0≤A0
        · rw [if_pos c4] at H
          have c4b0:decide (0≤A0)=true:=decide_eq_true c4
          clear c4
          obtain ⟨y101,hy101⟩:∃ y_:List Bool,y_=(A2.set (A0:Int).toNat ((Int.tmod A3 3) == 0)):=⟨_,rfl⟩
          replace H:(laws_markBoolS.l0 k1 y101 (wrap64 (A3 + 1)) (wrap64 (A0 + 1)))=some (r1,r2):=by first|(rw [hy101];with_reducible exact H)|(have H2_:=(Option.bind_some _ _).symm.trans H;rw [hy101];with_reducible exact H2_)|(have H2_:=(Option.bind_some _ _).symm.trans H;with_reducible exact H2_)|with_reducible exact H|(rw [hy101];exact H)|exact H
          have Ny101:=Aside0.mk hy101
          clear hy101
          have H':=Aside0.mk H
          clear H
          obtain ⟨Ao6,co6,eo6⟩:=Kd.R_slice A1.out
          subst eo6
          have p5:0≤(A0:Int):=od
          have q5:(A0:Int) < ((A2.length:Int):Int):=od
          obtain ⟨go5,co5,eo5,gb5,gl5,cl5,HG5⟩:=Kd.R_form A1.out (by omega)
          (first|cases eo5|(injection eo5 with ea_ en_ ec_;(first|subst ea_|(injection ea_ with ea_;subst ea_));subst ec_;clear en_))
          have GB5:=Aside0.mk gb5
          have GG5:=Aside0.mk HG5
          clear gb5 gl5 HG5
          have HMgo5:=Aside0.mk (show (P0_ go5∨w.heap.size≤go5) from (A1.out.1 _ rfl))
          obtain ⟨hx5_0,hf5_0⟩:=Kd.R_celln false A1.out (A0:Int) p5 q5
          replace p5:=eq_true p5
          replace q5:=eq_true q5
          have HP7:=Kd.R_putg A1.out (A0:Int) ((Int.tmod A3 3) == 0)
          go_wp2_with (first|((with_reducible refine gate_store (t:=4) (p:=17) rfl ?_);refine store_event (t:=4) (p:=17) (v:=?vo_w8) (w1:=(wr.setCell ⟨go5,(A0:Int).toNat,none⟩ (.bool ((Int.tmod A3 3) == 0)))) ?hg ?ho ?hn ?hr ?_;(case ho=>rfl);(case hg=>rfl);(case hn=>rfl);(case hr=>first|(go_simp;done)|(go_simp;rfl));intro w8 hw;have hg:wr.grownBy w8 (some go5):=(by rw [hw];exact HP7.2);have hp_:Kd.R Kd.bool 4 w8 w0.heap.size (fun k_=>(P0_ k_∨w.heap.size≤k_)) (.slice (some ⟨go5,0,none⟩) A2.length co6) y101:=(by rw [hw,Ny101.out];exact HP7.1);clear HP7;replace HB:=Aside0.mk ((by rw [hw];exact below_set (HB.out) GB5.out:Below w0.heap.size w0 w8));replace HK:=Aside0.mk (Kept.of_grown (S:=(fun k_=>P0_ k_)) hg (tk HK) (fun k_ e_=>(A1.out.1 k_ e_)));replace A1:=Aside0.mk (hp_);clear hg hw hp_))
          go_roundg k1
          case measure=>have:=HK1.out;omega
          case rel=>exact ⟨(y101),(wrap64 (A3 + 1)),(wrap64 (A0 + 1)),(by first|rfl|(simp;done)|(simp [*];done)),(by first|rfl|(simp;done)|(simp [*];done)),H',⟨by have:=HK1.out;omega⟩,⟨ra A1⟩,⟨by exact tk HK⟩,⟨by exact tb HB⟩⟩
        · rw [if_neg c4] at H
          exact absurd H (by simp)
      · rw [if_neg c3] at H
        have c3b0:decide (A0 < (A2.length:Int))=false:=decide_eq_false c3
        clear c3
        simp only [Option.some.injEq,Prod.mk.injEq] at H
        obtain ⟨rfl,rfl⟩:=H
        obtain ⟨Ao9,co9,eo9⟩:=Kd.R_slice A1.out
        subst eo9
        go_wp2
        go_ret
        exact ⟨er,ra A1,tb HB,tk HK⟩
def laws_markIntS.l0:Nat→List Int→Int→Int→Option (Int × List Int)
  | 0,_,_,_=>none
  | k + 1,x0,x1,x5=>if x5 < (x0.length:Int) then (if 0≤x5 then (laws_markIntS.l0 k (x0.set (x5:Int).toNat x1) (wrap64 (x1 + 1)) (wrap64 (x5 + 1))) else (none)) else (some (x1,x0))
def laws_markIntS.f (k:Nat) (l0:List Int) (a1:Int):Option (Int × List Int):=laws_markIntS.l0 k l0 a1 0
set_option maxHeartbeats 8000000 in
set_option maxRecDepth 100000 in
theorem laws_markIntS.calls (k:Nat) (P0_:Nat→Prop) (u9000_:Value) (l0:List Int) (a1:Int) (r1:Int) (r2:List Int) (w0 w:World) (hB:Below w0.heap.size w0 w) (ho0:Kd.R (Kd.int .i64) 3 w w0.heap.size P0_ u9000_ l0) (h:laws_markIntS.f k l0 a1=some (r1,r2)) :
    Calls Try.prog 67 #[u9000_,.int .i64 a1] w fun e w'=>e = .returned (.int .i64 r1)∧Kd.R (Kd.int .i64) 3 w' w0.heap.size (fun k_=>(P0_ k_∨w.heap.size≤k_)) u9000_ r2∧Below w0.heap.size w0 w'∧Kept w w' (fun k_=>P0_ k_):=by
  have HO0:=Aside0.mk (show Kd.R (Kd.int .i64) 3 w w0.heap.size (fun k_=>(P0_ k_∨w.heap.size≤k_)) u9000_ l0 from Kd.R_mono ho0 (fun k_ hk=>(.inl hk)))
  have HK:=Aside0.mk (Kept.refl w (fun k_=>P0_ k_))
  have HW0:=Aside0.mk hB.size
  have HB:=Aside0.mk hB
  clear hB
  have H:(laws_markIntS.l0 k l0 a1 0)=some (r1,r2):=h
  clear h
  have H':=Aside0.mk H
  clear H
  go_enter Try.func67,Try.ntmps67
  go_wp2
  go_loopg [1,5] k (fun kq v1 v5 w'=>∃ (A2:List Int) (A3:Int) (A0:Int),v1 = .int .i64 A3∧v5 = .int .i64 A0∧Aside0 (laws_markIntS.l0 kq A2 A3 A0=some (r1,r2))∧Aside0 (kq≤k)∧Aside0 (Kd.R (Kd.int .i64) 3 w' w0.heap.size (fun k_=>(P0_ k_∨w.heap.size≤k_)) u9000_ A2)∧Aside0 (Kept w w' (fun k_=>P0_ k_))∧Aside0 (Below w0.heap.size w0 w'))
  case atStart=>exact ⟨(l0),(a1),(0),(by first|rfl|(simp;done)|(simp [*];done)),(by first|rfl|(simp;done)|(simp [*];done)),H',⟨Nat.le_refl _⟩,⟨ra HO0⟩,⟨by exact tk HK⟩,⟨by exact tb HB⟩⟩
  case round =>
    clear H'
    try clear p2
    obtain ⟨A2,A3,A0,rfl,rfl,HA,HK1,A1,HK,HB⟩:=hrel
    cases gk with
    | zero=>exact absurd HA.out (by simp [laws_markIntS.l0])
    | succ k1 =>
      have H:=HA.out
      clear HA
      simp only [laws_markIntS.l0] at H
      by_cases c3:A0 < (A2.length:Int)
      · rw [if_pos c3] at H
        have c3b0:decide (A0 < (A2.length:Int))=true:=decide_eq_true c3
        clear c3
        by_cases c4:0≤A0
        · rw [if_pos c4] at H
          have c4b0:decide (0≤A0)=true:=decide_eq_true c4
          clear c4
          obtain ⟨y101,hy101⟩:∃ y_:List Int,y_=(A2.set (A0:Int).toNat A3):=⟨_,rfl⟩
          replace H:(laws_markIntS.l0 k1 y101 (wrap64 (A3 + 1)) (wrap64 (A0 + 1)))=some (r1,r2):=by first|(rw [hy101];with_reducible exact H)|(have H2_:=(Option.bind_some _ _).symm.trans H;rw [hy101];with_reducible exact H2_)|(have H2_:=(Option.bind_some _ _).symm.trans H;with_reducible exact H2_)|with_reducible exact H|(rw [hy101];exact H)|exact H
          have Ny101:=Aside0.mk hy101
          clear hy101
          have H':=Aside0.mk H
          clear H
          obtain ⟨Ao6,co6,eo6⟩:=Kd.R_slice A1.out
          subst eo6
          have p5:0≤(A0:Int):=od
          have q5:(A0:Int) < ((A2.length:Int):Int):=od
          obtain ⟨go5,co5,eo5,gb5,gl5,cl5,HG5⟩:=Kd.R_form A1.out (by omega)
          (first|cases eo5|(injection eo5 with ea_ en_ ec_;(first|subst ea_|(injection ea_ with ea_;subst ea_));subst ec_;clear en_))
          have GB5:=Aside0.mk gb5
          have GG5:=Aside0.mk HG5
          clear gb5 gl5 HG5
          have HMgo5:=Aside0.mk (show (P0_ go5∨w.heap.size≤go5) from (A1.out.1 _ rfl))
          obtain ⟨hx5_0,hf5_0⟩:=Kd.R_celln 0 A1.out (A0:Int) p5 q5
          replace p5:=eq_true p5
          replace q5:=eq_true q5
          have HP7:=Kd.R_putg A1.out (A0:Int) A3
          go_wp2_with (first|((with_reducible refine gate_store (t:=3) (p:=15) rfl ?_);refine store_event (t:=3) (p:=15) (v:=?vo_w8) (w1:=(wr.setCell ⟨go5,(A0:Int).toNat,none⟩ (.int .i64 A3))) ?hg ?ho ?hn ?hr ?_;(case ho=>rfl);(case hg=>rfl);(case hn=>rfl);(case hr=>first|(go_simp;done)|(go_simp;rfl));intro w8 hw;have hg:wr.grownBy w8 (some go5):=(by rw [hw];exact HP7.2);have hp_:Kd.R (Kd.int .i64) 3 w8 w0.heap.size (fun k_=>(P0_ k_∨w.heap.size≤k_)) (.slice (some ⟨go5,0,none⟩) A2.length co6) y101:=(by rw [hw,Ny101.out];exact HP7.1);clear HP7;replace HB:=Aside0.mk ((by rw [hw];exact below_set (HB.out) GB5.out:Below w0.heap.size w0 w8));replace HK:=Aside0.mk (Kept.of_grown (S:=(fun k_=>P0_ k_)) hg (tk HK) (fun k_ e_=>(A1.out.1 k_ e_)));replace A1:=Aside0.mk (hp_);clear hg hw hp_))
          go_roundg k1
          case measure=>have:=HK1.out;omega
          case rel=>exact ⟨(y101),(wrap64 (A3 + 1)),(wrap64 (A0 + 1)),(by first|rfl|(simp;done)|(simp [*];done)),(by first|rfl|(simp;done)|(simp [*];done)),H',⟨by have:=HK1.out;omega⟩,⟨ra A1⟩,⟨by exact tk HK⟩,⟨by exact tb HB⟩⟩
        · rw [if_neg c4] at H
          exact absurd H (by simp)
      · rw [if_neg c3] at H
        have c3b0:decide (A0 < (A2.length:Int))=false:=decide_eq_false c3
        clear c3
        simp only [Option.some.injEq,Prod.mk.injEq] at H
        obtain ⟨rfl,rfl⟩:=H
        obtain ⟨Ao9,co9,eo9⟩:=Kd.R_slice A1.out
        subst eo9
        go_wp2
        go_ret
        exact ⟨er,ra A1,tb HB,tk HK⟩
def laws_markSeenS.l0:Nat→List (S86)→Int→Int→Option (Int × (List (S86)))
  | 0,_,_,_=>none
  | k + 1,x0,x1,x5=>if x5 < (x0.length:Int) then ((laws_markText.f k x1).bind fun A5=>(if 0≤x5 then ((some (x0.set (x5:Int).toNat (⟨A5,(rd_T86 x0 x5).f1⟩:S86):List (S86))).bind fun y102=>(laws_markSeenS.l0 k (y102.set (x5:Int).toNat (⟨(rd_T86 y102 x5).f0,wrap64 (x1 + 1)⟩:S86)) (wrap64 ((wrap64 (x1 + 1)) + 1)) (wrap64 (x5 + 1)))) else (none))) else (some (x1,x0))
def laws_markSeenS.f (k:Nat) (l0:List (S86)) (a1:Int):Option (Int × (List (S86))):=laws_markSeenS.l0 k l0 a1 0
set_option maxHeartbeats 8000000 in
set_option maxRecDepth 100000 in
theorem laws_markSeenS.calls (k:Nat) (P0_:Nat→Prop) (u9000_:Value) (l0:List (S86)) (a1:Int) (r1:Int) (r2:List (S86)) (w0 w:World) (hB:Below w0.heap.size w0 w) (ho0:Kd.R k86 86 w w0.heap.size P0_ u9000_ l0) (h:laws_markSeenS.f k l0 a1=some (r1,r2)) :
    Calls Try.prog 68 #[u9000_,.int .i64 a1] w fun e w'=>e = .returned (.int .i64 r1)∧Kd.R k86 86 w' w0.heap.size (fun k_=>(P0_ k_∨w.heap.size≤k_)) u9000_ r2∧Below w0.heap.size w0 w'∧Kept w w' (fun k_=>P0_ k_):=by
  have HO0:=Aside0.mk (show Kd.R k86 86 w w0.heap.size (fun k_=>(P0_ k_∨w.heap.size≤k_)) u9000_ l0 from Kd.R_mono ho0 (fun k_ hk=>(.inl hk)))
  have HK:=Aside0.mk (Kept.refl w (fun k_=>P0_ k_))
  have HW0:=Aside0.mk hB.size
  have HB:=Aside0.mk hB
  clear hB
  have H:(laws_markSeenS.l0 k l0 a1 0)=some (r1,r2):=h
  clear h
  have H':=Aside0.mk H
  clear H
  go_enter Try.func68,Try.ntmps68
  go_wp2
  go_loopg [1,5] k (fun kq v1 v5 w'=>∃ (A1:List (S86)) (A3:Int) (A0:Int),v1 = .int .i64 A3∧v5 = .int .i64 A0∧Aside0 (laws_markSeenS.l0 kq A1 A3 A0=some (r1,r2))∧Aside0 (kq≤k)∧Aside0 (Kd.R k86 86 w' w0.heap.size (fun k_=>(P0_ k_∨w.heap.size≤k_)) u9000_ A1)∧Aside0 (Kept w w' (fun k_=>P0_ k_))∧Aside0 (Below w0.heap.size w0 w'))
  case atStart=>exact ⟨(l0),(a1),(0),(by first|rfl|(simp;done)|(simp [*];done)),(by first|rfl|(simp;done)|(simp [*];done)),H',⟨Nat.le_refl _⟩,⟨ra HO0⟩,⟨by exact tk HK⟩,⟨by exact tb HB⟩⟩
  case round =>
    clear H'
    try clear p2
    obtain ⟨A1,A3,A0,rfl,rfl,HA,HK1,A2,HK,HB⟩:=hrel
    cases gk with
    | zero=>exact absurd HA.out (by simp [laws_markSeenS.l0])
    | succ k1 =>
      have H:=HA.out
      clear HA
      simp only [laws_markSeenS.l0] at H
      by_cases c3:A0 < (A1.length:Int)
      · rw [if_pos c3] at H
        have c3b0:decide (A0 < (A1.length:Int))=true:=decide_eq_true c3
        clear c3
        replace H:=Option.bind_eq_some_iff.mp H
        obtain ⟨A5,A40,H⟩:=H
        replace H:(if 0≤A0 then ((some (A1.set (A0:Int).toNat (⟨A5,(rd_T86 A1 A0).f1⟩:S86):List (S86))).bind fun y102=>(laws_markSeenS.l0 k1 (y102.set (A0:Int).toNat (⟨(rd_T86 y102 A0).f0,wrap64 (A3 + 1)⟩:S86)) (wrap64 ((wrap64 (A3 + 1)) + 1)) (wrap64 (A0 + 1)))) else (none))=some (r1,r2):=H
        have A4:=Aside0.mk A40
        clear A40
        by_cases c5:0≤A0
        · rw [if_pos c5] at H
          have c5b0:decide (0≤A0)=true:=decide_eq_true c5
          clear c5
          obtain ⟨y102,hy102⟩:∃ y_:List (S86),y_=(A1.set (A0:Int).toNat (⟨A5,(rd_T86 A1 A0).f1⟩:S86)):=⟨_,rfl⟩
          replace H:(laws_markSeenS.l0 k1 (y102.set (A0:Int).toNat (⟨(rd_T86 y102 A0).f0,wrap64 (A3 + 1)⟩:S86)) (wrap64 ((wrap64 (A3 + 1)) + 1)) (wrap64 (A0 + 1)))=some (r1,r2):=by first|(rw [hy102];with_reducible exact H)|(have H2_:=(Option.bind_some _ _).symm.trans H;rw [hy102];with_reducible exact H2_)|(have H2_:=(Option.bind_some _ _).symm.trans H;with_reducible exact H2_)|with_reducible exact H|(rw [hy102];exact H)|exact H
          have Ny102:=Aside0.mk hy102
          clear hy102
          obtain ⟨y103,hy103⟩:∃ y_:List (S86),y_=(y102.set (A0:Int).toNat (⟨(rd_T86 y102 A0).f0,wrap64 (A3 + 1)⟩:S86)):=⟨_,rfl⟩
          replace H:(laws_markSeenS.l0 k1 y103 (wrap64 ((wrap64 (A3 + 1)) + 1)) (wrap64 (A0 + 1)))=some (r1,r2):=by first|(rw [hy103];with_reducible exact H)|(have H2_:=(Option.bind_some _ _).symm.trans H;rw [hy103];with_reducible exact H2_)|(have H2_:=(Option.bind_some _ _).symm.trans H;with_reducible exact H2_)|with_reducible exact H|(rw [hy103];exact H)|exact H
          have Ny103:=Aside0.mk hy103
          clear hy103
          have H':=Aside0.mk H
          clear H
          obtain ⟨Ao8,co8,eo8⟩:=Kd.R_slice A2.out
          subst eo8
          go_wp2_with (first|((with_reducible refine gate_callee (f:=110) rfl ?_);refine goesL_ (some 15) rfl rfl Try.func110 (by kernel_rfl) rfl #[.int .i64 A3] rfl ml ?_;(with_reducible refine (laws_markText.calls k1 A3 A5 _ A4.out).mono ?_);rintro e w9 ⟨rfl,hb⟩;refine ⟨_,rfl,?_⟩;replace A2:=Aside0.mk (Kd.R_below (ra A2) hb);replace HK:=Aside0.mk (Kept.below (S:=(fun k_=>P0_ k_)) (tk HK) hb);replace HB:=Aside0.mk (below_step (tb HB) hb);(try clear hb);(try clear hb2);(try clear hk);(try clear hi);have p6:0≤(A0:Int):=od;have q6:(A0:Int) < ((A1.length:Int):Int):=od;obtain ⟨go6,co6,eo6,gb6,gl6,cl6,HG6⟩:=Kd.R_form A2.out (by omega);(first|cases eo6|(injection eo6 with ea_ en_ ec_;(first|subst ea_|(injection ea_ with ea_;subst ea_));subst ec_;clear en_));have GB6:=Aside0.mk gb6;have GG6:=Aside0.mk HG6;clear gb6 gl6 HG6;have HMgo6:=Aside0.mk (show (P0_ go6∨w.heap.size≤go6) from (A2.out.1 _ rfl));obtain ⟨ce6,hcl6,hM6,hcc6,hfr6⟩:=Kd.R_elem A2.out z86 (A0:Int) p6 q6;obtain rfl:=k86_openM hM6;have hx6_0:w9.cell? ⟨go6,(A0:Int).toNat * 2,none⟩=some (.string ((rd_T86 A1 A0).f0)):=hcc6 0 _ rfl;have hx6_1:w9.cell? ⟨go6,(A0:Int).toNat * 2 + 1,none⟩=some (.int .i64 ((rd_T86 A1 A0).f1)):=hcc6 1 _ rfl;have hf6_0:w9.frozen? ⟨go6,(A0:Int).toNat * 2,none⟩=false:=hfr6 0;have hf6_1:w9.frozen? ⟨go6,(A0:Int).toNat * 2 + 1,none⟩=false:=hfr6 1;clear hcl6 hcc6 hfr6 hM6;replace p6:=eq_true p6;replace q6:=eq_true q6;have HX10:=Aside0.mk (show Kd.R k86 86 w9 w0.heap.size (fun k_=>(P0_ k_∨w.heap.size≤k_)) (.slice (some ⟨go6,0,none⟩) A1.length co8) A1 from (ra A2));obtain ⟨ce10,hcl10,hM10,hcc10,hfr10⟩:=Kd.R_elem HX10.out z86 (A0:Int) (od) (by have h_:(A0:Int) < ((A1.length:Int):Int):=od;first|exact h_|(have e_:=(Kd.R_reads' A2.out).1;omega)|simpa using h_);obtain rfl:=k86_openM hM10;have HP10:=Kd.R_seg HX10.out (A0:Int) (od) (by have h_:(A0:Int) < ((A1.length:Int):Int):=od;first|exact h_|(have e_:=(Kd.R_reads' A2.out).1;omega)|simpa using h_) (seg:=[.string A5]) (j:=0) hcl10 hcc10 (show 1≤2 from by decide) (x':=(⟨A5,(rd_T86 A1 A0).f1⟩:S86)) (k86_mkM _ _ _ (⟨A5,(rd_T86 A1 A0).f1⟩:S86) ) (fun _ hk=>hk);have hx10_0:=hcc10 0 _ rfl;(try simp only [show (k86).sz=2 from rfl,Nat.mul_one,Nat.add_zero] at hx10_0);have hf10_0:=hfr10 0;(try simp only [show (k86).sz=2 from rfl,Nat.mul_one,Nat.add_zero] at hf10_0);clear hcl10 hcc10 hfr10 hM10)|((with_reducible refine gate_store (t:=9) (p:=17) rfl ?_);refine store_event (t:=9) (p:=17) (v:=?vo_w11) (w1:=(w9.setCell ⟨go6,(A0:Int).toNat * 2,none⟩ (.string A5))) ?hg ?ho ?hn ?hr ?_;(case ho=>rfl);(case hg=>rfl);(case hn=>rfl);(case hr=>first|(go_simp;done)|(go_simp;rfl));intro w11 hw;have hg:w9.grownBy w11 (some go6):=(by rw [hw];exact HP10.2);have hp_:Kd.R k86 86 w11 w0.heap.size (fun k_=>(P0_ k_∨w.heap.size≤k_)) (.slice (some ⟨go6,0,none⟩) A1.length co8) y102:=(by rw [hw,Ny102.out];exact HP10.1);clear HP10;replace HB:=Aside0.mk ((by rw [hw];exact below_set (HB.out) GB6.out:Below w0.heap.size w0 w11));replace HK:=Aside0.mk (Kept.of_grown (S:=(fun k_=>P0_ k_)) hg (tk HK) (fun k_ e_=>(A2.out.1 k_ e_)));replace A2:=Aside0.mk (hp_);clear hg hw hp_;have p7:0≤(A0:Int):=od;have q7:(A0:Int) < ((A1.length:Int):Int):=od;obtain ⟨ce7,hcl7,hM7,hcc7,hfr7⟩:=Kd.R_elem A2.out z86 (A0:Int) p7 q7;obtain rfl:=k86_openM hM7;have hx7_0:w11.cell? ⟨go6,(A0:Int).toNat * 2,none⟩=some (.string ((rd_T86 y102 A0).f0)):=hcc7 0 _ rfl;have hx7_1:w11.cell? ⟨go6,(A0:Int).toNat * 2 + 1,none⟩=some (.int .i64 ((rd_T86 y102 A0).f1)):=hcc7 1 _ rfl;have hf7_0:w11.frozen? ⟨go6,(A0:Int).toNat * 2,none⟩=false:=hfr7 0;have hf7_1:w11.frozen? ⟨go6,(A0:Int).toNat * 2 + 1,none⟩=false:=hfr7 1;clear hcl7 hcc7 hfr7 hM7;replace p7:=eq_true p7;replace q7:=eq_true q7;have HX12:=Aside0.mk (show Kd.R k86 86 w11 w0.heap.size (fun k_=>(P0_ k_∨w.heap.size≤k_)) (.slice (some ⟨go6,0,none⟩) A1.length co8) y102 from (ra A2));obtain ⟨ce12,hcl12,hM12,hcc12,hfr12⟩:=Kd.R_elem HX12.out z86 (A0:Int) (od) (by have h_:(A0:Int) < ((A1.length:Int):Int):=od;first|exact h_|(have e_:=(Kd.R_reads' A2.out).1;omega)|simpa using h_);obtain rfl:=k86_openM hM12;have HP12:=Kd.R_seg HX12.out (A0:Int) (od) (by have h_:(A0:Int) < ((A1.length:Int):Int):=od;first|exact h_|(have e_:=(Kd.R_reads' A2.out).1;omega)|simpa using h_) (seg:=[.int .i64 (wrap64 (A3 + 1))]) (j:=1) hcl12 hcc12 (show 2≤2 from by decide) (x':=(⟨(rd_T86 y102 A0).f0,wrap64 (A3 + 1)⟩:S86)) (k86_mkM _ _ _ (⟨(rd_T86 y102 A0).f0,wrap64 (A3 + 1)⟩:S86) ) (fun _ hk=>hk);have hx12_1:=hcc12 1 _ rfl;(try simp only [show (k86).sz=2 from rfl,Nat.mul_one,Nat.add_zero] at hx12_1);have hf12_1:=hfr12 1;(try simp only [show (k86).sz=2 from rfl,Nat.mul_one,Nat.add_zero] at hf12_1);clear hcl12 hcc12 hfr12 hM12)|((with_reducible refine gate_store (t:=3) (p:=24) rfl ?_);refine store_event (t:=3) (p:=24) (v:=?vo_w13) (w1:=(w11.setCell ⟨go6,(A0:Int).toNat * 2 + 1,none⟩ (.int .i64 (wrap64 (A3 + 1))))) ?hg ?ho ?hn ?hr ?_;(case ho=>rfl);(case hg=>rfl);(case hn=>rfl);(case hr=>first|(go_simp;done)|(go_simp;rfl));intro w13 hw;have hg:w11.grownBy w13 (some go6):=(by rw [hw];exact HP12.2);have hp_:Kd.R k86 86 w13 w0.heap.size (fun k_=>(P0_ k_∨w.heap.size≤k_)) (.slice (some ⟨go6,0,none⟩) A1.length co8) y103:=(by rw [hw,Ny103.out];exact HP12.1);clear HP12;replace HB:=Aside0.mk ((by rw [hw];exact below_set (HB.out) GB6.out:Below w0.heap.size w0 w13));replace HK:=Aside0.mk (Kept.of_grown (S:=(fun k_=>P0_ k_)) hg (tk HK) (fun k_ e_=>(A2.out.1 k_ e_)));replace A2:=Aside0.mk (hp_);clear hg hw hp_))
          go_roundg k1
          case measure=>have:=HK1.out;omega
          case rel=>exact ⟨(y103),(wrap64 ((wrap64 (A3 + 1)) + 1)),(wrap64 (A0 + 1)),(by first|rfl|(simp;done)|(simp [*];done)),(by first|rfl|(simp;done)|(simp [*];done)),H',⟨by have:=HK1.out;omega⟩,⟨ra A2⟩,⟨by exact tk HK⟩,⟨by exact tb HB⟩⟩
        · rw [if_neg c5] at H
          exact absurd H (by simp)
      · rw [if_neg c3] at H
        have c3b0:decide (A0 < (A1.length:Int))=false:=decide_eq_false c3
        clear c3
        simp only [Option.some.injEq,Prod.mk.injEq] at H
        obtain ⟨rfl,rfl⟩:=H
        obtain ⟨Ao14,co14,eo14⟩:=Kd.R_slice A2.out
        subst eo14
        go_wp2
        go_ret
        exact ⟨er,ra A2,tb HB,tk HK⟩
def laws_markMachine.f (k:Nat) (Ac:List Bool) (Ad:Int) (Ae:ByteArray) (Af:Int) (Ab:List Int) (Ag:Int) (Ah:Bool) (Ai:Int) (Aj:Int) (Ak:Int) (Aa:List (S86)) (a1:Int):Option (Int × List Bool × List Int × (List (S86))):=(laws_markBoolS.f k Ac a1).bind fun bt102=>((laws_markIntS.f k Ab bt102.1).bind fun bt104=>((laws_markSeenS.f k Aa bt104.1).bind fun bt106=>(some (bt106.1,bt102.2,bt104.2,bt106.2))))
set_option maxHeartbeats 8000000 in
set_option maxRecDepth 100000 in
theorem laws_markMachine.calls (k:Nat) (A2:Nat→Prop) (u9000_:Value) (Ac:List Bool) (Ad:Int) (Ae:ByteArray) (Af:Int) (A6:Nat→Prop) (u9001_:Value) (Ab:List Int) (Ag:Int) (Ah:Bool) (Ai:Int) (Aj:Int) (Ak:Int) (A0:Nat→Prop) (u9002_:Value) (Aa:List (S86)) (a1:Int) (r1:Int) (r2:List Bool) (r3:List Int) (r4:List (S86)) (w0 w:World) (hB:Below w0.heap.size w0 w) (ho0_0:Kd.R Kd.bool 4 w w0.heap.size A2 u9000_ Ac) (ho0_4:Kd.R (Kd.int .i64) 3 w w0.heap.size A6 u9001_ Ab) (ho0_10:Kd.R k86 86 w w0.heap.size A0 u9002_ Aa) (h:laws_markMachine.f k Ac Ad Ae Af Ab Ag Ah Ai Aj Ak Aa a1=some (r1,r2,r3,r4)) :
    Calls Try.prog 27 #[.agg #[u9000_,.int .i64 Ad,.string Ae,.int .i64 Af,u9001_,.int .i64 Ag,.bool Ah,.int .i64 Ai,.int .i64 Aj,.int .i64 Ak,u9002_],.int .i64 a1] w fun e w'=>e = .returned (.int .i64 r1)∧Kd.R Kd.bool 4 w' w0.heap.size (fun k_=>((A2 k_∨A6 k_∨A0 k_)∨w.heap.size≤k_)) u9000_ r2∧Kd.R (Kd.int .i64) 3 w' w0.heap.size (fun k_=>((A2 k_∨A6 k_∨A0 k_)∨w.heap.size≤k_)) u9001_ r3∧Kd.R k86 86 w' w0.heap.size (fun k_=>((A2 k_∨A6 k_∨A0 k_)∨w.heap.size≤k_)) u9002_ r4∧Below w0.heap.size w0 w'∧Kept w w' (fun k_=>A2 k_∨A6 k_∨A0 k_):=by
  have hu36:=Try.underlying36
  have A7:=Aside0.mk (show Kd.R Kd.bool 4 w w0.heap.size (fun k_=>((A2 k_∨A6 k_∨A0 k_)∨w.heap.size≤k_)) u9000_ Ac from Kd.R_mono ho0_0 (fun k_ hk=>(.inl (.inl hk))))
  have A8:=Aside0.mk (show Kd.R (Kd.int .i64) 3 w w0.heap.size (fun k_=>((A2 k_∨A6 k_∨A0 k_)∨w.heap.size≤k_)) u9001_ Ab from Kd.R_mono ho0_4 (fun k_ hk=>(.inl (.inr (.inl hk)))))
  have A1:=Aside0.mk (show Kd.R k86 86 w w0.heap.size (fun k_=>((A2 k_∨A6 k_∨A0 k_)∨w.heap.size≤k_)) u9002_ Aa from Kd.R_mono ho0_10 (fun k_ hk=>(.inl (.inr (.inr hk)))))
  have HK:=Aside0.mk (Kept.refl w (fun k_=>A2 k_∨A6 k_∨A0 k_))
  have HW0:=Aside0.mk hB.size
  have HB:=Aside0.mk hB
  clear hB
  have H:((laws_markBoolS.f k Ac a1).bind fun bt102=>((laws_markIntS.f k Ab bt102.1).bind fun bt104=>((laws_markSeenS.f k Aa bt104.1).bind fun bt106=>(some (bt106.1,bt102.2,bt104.2,bt106.2)))))=some (r1,r2,r3,r4):=h
  clear h
  replace H:=Option.bind_eq_some_iff.mp H
  obtain ⟨⟨Al,Am⟩,A30,H⟩:=H
  replace H:((laws_markIntS.f k Ab Al).bind fun bt104=>((laws_markSeenS.f k Aa bt104.1).bind fun bt106=>(some (bt106.1,Am,bt104.2,bt106.2))))=some (r1,r2,r3,r4):=H
  have A3:=Aside0.mk A30
  clear A30
  replace H:=Option.bind_eq_some_iff.mp H
  obtain ⟨⟨An,Ap⟩,A40,H⟩:=H
  replace H:((laws_markSeenS.f k Aa An).bind fun bt106=>(some (bt106.1,Am,Ap,bt106.2)))=some (r1,r2,r3,r4):=H
  have A4:=Aside0.mk A40
  clear A40
  replace H:=Option.bind_eq_some_iff.mp H
  obtain ⟨⟨Aq,Ar⟩,A50,H⟩:=H
  replace H:(some (Aq,Am,Ap,Ar))=some (r1,r2,r3,r4):=H
  have A5:=Aside0.mk A50
  clear A50
  simp only [Option.some.injEq,Prod.mk.injEq] at H
  obtain ⟨rfl,rfl,rfl,rfl⟩:=H
  obtain ⟨Ao6,co6,eo6⟩:=Kd.R_slice A7.out
  subst eo6
  obtain ⟨Ao7,co7,eo7⟩:=Kd.R_slice A8.out
  subst eo7
  obtain ⟨Ao8,co8,eo8⟩:=Kd.R_slice A1.out
  subst eo8
  go_enter Try.func27,Try.ntmps27
  go_wp2_with (first|((with_reducible refine gate_dst (N:=2) rfl ?_);refine bx (N:=2) (cs:=#[.slice Ao6 Ac.length co6,.int .i64 Ad,.string Ae,.int .i64 Af,.slice Ao7 Ab.length co7,.int .i64 Ag,.bool Ah,.int .i64 Ai,.int .i64 Aj,.int .i64 Ak,.slice Ao8 Aa.length co8]) (t:=36) ?_;intro Ao hg w9 hbox hb;replace A7:=Aside0.mk (Kd.R_below (ra A7) hb);replace A8:=Aside0.mk (Kd.R_below (ra A8) hb);replace A1:=Aside0.mk (Kd.R_below (ra A1) hb);have A9:=Aside0.mk (hbox);have GW101:=Aside0.mk ((by rw [hg];exact (by first|exact HK.out.1|exact (show Kept w _ (fun k_=>A2 k_∨A6 k_∨A0 k_) from tk HK).1):w.heap.size≤Ao));replace HK:=Aside0.mk (Kept.below (S:=(fun k_=>A2 k_∨A6 k_∨A0 k_)) (tk HK) hb);have GE101:=Aside0.mk ((by rw [hg];exact (below_size (tb HB)):w0.heap.size≤Ao));replace HB:=Aside0.mk (below_step (tb HB) hb);clear hb hbox hg;have hcz10__:=c11_ A9;have hfz10__:=f_ A9)|((with_reducible refine gate_callee (f:=26) rfl ?_);refine goesL_ (some 8) rfl rfl Try.func26 (by kernel_rfl) rfl #[.slice Ao6 Ac.length co6,.int .i64 a1] rfl ml ?_;(with_reducible refine (laws_markBoolS.calls k (fun k_=>some k_=(.slice Ao6 Ac.length co6:Value).ownBlock) (.slice Ao6 Ac.length co6) Ac a1 Al Am w0 _ ?side1 ?side2 A3.out).mono ?_);(case side1=>exact tb HB);(case side2=>exact Kd.R_tight rfl A7.out);rintro e w11 ⟨rfl,hy0,hb,hkp⟩;refine ⟨_,rfl,?_⟩;replace A8:=Aside0.mk (Kd.R_mono (ok':=fun k_=>((A2 k_∨A6 k_∨A0 k_)∨w.heap.size≤k_)) (Kd.R_keptB ((Kd.R_apart' A8.out (Kd.R_typed A7.out) (by decide))) hkp (fun k_ hk_ hs_=>(hk_.2) hs_)) (fun k_ hk_=>hk_.1.1));replace A1:=Aside0.mk (Kd.R_mono (ok':=fun k_=>((A2 k_∨A6 k_∨A0 k_)∨w.heap.size≤k_)) (Kd.R_keptB ((Kd.R_apart' A1.out (Kd.R_typed A7.out) (by decide))) hkp (fun k_ hk_ hs_=>(hk_.2) hs_)) (fun k_ hk_=>hk_.1.1));replace A9:=Aside0.mk (blk_kept (dr A9) hkp (fun hs_=>(fun e_=>(Kd.R_ne A7.out A9.out (by decide)) e_) hs_));replace HK:=Aside0.mk (Kept.then_ (S:=(fun k_=>A2 k_∨A6 k_∨A0 k_)) (tk HK) hkp (fun k_ hs_=>(fun e_=>(A7.out.1 k_ e_.symm)) hs_));replace A7:=Aside0.mk (Kd.R_reok rfl hy0 (fun k_ e_=>A7.out.1 k_ e_));replace HB:=Aside0.mk (hb);(try clear hb);(try clear hkp);(try clear hy0);have hcz12__:=c11_ A9;have hfz12__:=f_ A9)|((with_reducible refine gate_callee (f:=67) rfl ?_);refine goesL_ (some 12) rfl rfl Try.func67 (by kernel_rfl) rfl #[.slice Ao7 Ab.length co7,.int .i64 Al] rfl ml ?_;(with_reducible refine (laws_markIntS.calls k (fun k_=>some k_=(.slice Ao7 Ab.length co7:Value).ownBlock) (.slice Ao7 Ab.length co7) Ab Al An Ap w0 _ ?side1 ?side2 A4.out).mono ?_);(case side1=>exact tb HB);(case side2=>exact Kd.R_tight rfl A8.out);rintro e w13 ⟨rfl,hy0,hb,hkp⟩;refine ⟨_,rfl,?_⟩;replace A7:=Aside0.mk (Kd.R_mono (ok':=fun k_=>((A2 k_∨A6 k_∨A0 k_)∨w.heap.size≤k_)) (Kd.R_keptB ((Kd.R_apart' A7.out (Kd.R_typed A8.out) (by decide))) hkp (fun k_ hk_ hs_=>(hk_.2) hs_)) (fun k_ hk_=>hk_.1.1));replace A1:=Aside0.mk (Kd.R_mono (ok':=fun k_=>((A2 k_∨A6 k_∨A0 k_)∨w.heap.size≤k_)) (Kd.R_keptB ((Kd.R_apart' A1.out (Kd.R_typed A8.out) (by decide))) hkp (fun k_ hk_ hs_=>(hk_.2) hs_)) (fun k_ hk_=>hk_.1.1));replace A9:=Aside0.mk (blk_kept (dr A9) hkp (fun hs_=>(fun e_=>(Kd.R_ne A8.out A9.out (by decide)) e_) hs_));replace HK:=Aside0.mk (Kept.then_ (S:=(fun k_=>A2 k_∨A6 k_∨A0 k_)) (tk HK) hkp (fun k_ hs_=>(fun e_=>(A8.out.1 k_ e_.symm)) hs_));replace A8:=Aside0.mk (Kd.R_reok rfl hy0 (fun k_ e_=>A8.out.1 k_ e_));replace HB:=Aside0.mk (hb);(try clear hb);(try clear hkp);(try clear hy0);have hcz14__:=c11_ A9;have hfz14__:=f_ A9)|((with_reducible refine gate_callee (f:=68) rfl ?_);refine goesL_ (some 16) rfl rfl Try.func68 (by kernel_rfl) rfl #[.slice Ao8 Aa.length co8,.int .i64 An] rfl ml ?_;(with_reducible refine (laws_markSeenS.calls k (fun k_=>some k_=(.slice Ao8 Aa.length co8:Value).ownBlock) (.slice Ao8 Aa.length co8) Aa An Aq Ar w0 _ ?side1 ?side2 A5.out).mono ?_);(case side1=>exact tb HB);(case side2=>exact Kd.R_tight rfl A1.out);rintro e w15 ⟨rfl,hy0,hb,hkp⟩;refine ⟨_,rfl,?_⟩;replace A7:=Aside0.mk (Kd.R_mono (ok':=fun k_=>((A2 k_∨A6 k_∨A0 k_)∨w.heap.size≤k_)) (Kd.R_keptB ((Kd.R_apart' A7.out (Kd.R_typed A1.out) (by decide))) hkp (fun k_ hk_ hs_=>(hk_.2) hs_)) (fun k_ hk_=>hk_.1.1));replace A8:=Aside0.mk (Kd.R_mono (ok':=fun k_=>((A2 k_∨A6 k_∨A0 k_)∨w.heap.size≤k_)) (Kd.R_keptB ((Kd.R_apart' A8.out (Kd.R_typed A1.out) (by decide))) hkp (fun k_ hk_ hs_=>(hk_.2) hs_)) (fun k_ hk_=>hk_.1.1));replace A9:=Aside0.mk (blk_kept (dr A9) hkp (fun hs_=>(fun e_=>(Kd.R_ne A1.out A9.out (by decide)) e_) hs_));replace HK:=Aside0.mk (Kept.then_ (S:=(fun k_=>A2 k_∨A6 k_∨A0 k_)) (tk HK) hkp (fun k_ hs_=>(fun e_=>(A1.out.1 k_ e_.symm)) hs_));replace A1:=Aside0.mk (Kd.R_reok rfl hy0 (fun k_ e_=>A1.out.1 k_ e_));replace HB:=Aside0.mk (hb);(try clear hb);(try clear hkp);(try clear hy0)))
  go_ret
  exact ⟨er,ra A7,ra A8,ra A1,tb HB,tk HK⟩
def laws_szBoolS.f (l0:List Bool) (a1:Int):Option (Int):=if (wrap64 (a1 - (l0.length:Int))) < 0 then (some (-1)) else (some (wrap64 (a1 - (l0.length:Int))))
set_option maxHeartbeats 8000000 in
set_option maxRecDepth 100000 in
theorem laws_szBoolS.calls (A0:Option Addr) (c0:Nat) (l0:List Bool) (a1:Int) (r:Int) (w:World) (hr0:Kd.C Kd.bool w A0 l0.length l0) (hc0:l0.length≤c0) (h:laws_szBoolS.f l0 a1=some r) :
    Calls Try.prog 72 #[.slice A0 l0.length c0,.int .i64 a1] w fun e w'=>e = .returned (.int .i64 r)∧Drawn0 w w':=by
  have HR0:=Aside0.mk hr0
  have HC0:=Aside0.mk hc0
  clear hr0 hc0
  have H:(if (wrap64 (a1 - (l0.length:Int))) < 0 then (some (-1)) else (some (wrap64 (a1 - (l0.length:Int)))))=some r:=h
  clear h
  by_cases c3:(wrap64 (a1 - (l0.length:Int))) < 0
  · rw [if_pos c3] at H
    have c3b0:decide ((wrap64 (a1 - (l0.length:Int))) < 0)=true:=decide_eq_true c3
    clear c3
    obtain rfl:=Option.some.inj H
    go_enter Try.func72,Try.ntmps72
    go_wp2
    go_ret
    exact ⟨by first|rfl|(simp;done)|(simp [*];done),by repeat (first|exact Drawn0.refl _|apply Drawn0.step)⟩
  · rw [if_neg c3] at H
    have c3b0:decide ((wrap64 (a1 - (l0.length:Int))) < 0)=false:=decide_eq_false c3
    clear c3
    obtain rfl:=Option.some.inj H
    go_enter Try.func72,Try.ntmps72
    go_wp2
    go_ret
    exact ⟨by first|rfl|(simp;done)|(simp [*];done),by repeat (first|exact Drawn0.refl _|apply Drawn0.step)⟩
def laws_szIntS.f (l0:List Int) (a1:Int):Option (Int):=if (wrap64 (a1 - (l0.length:Int))) < 0 then (some (-1)) else (some (wrap64 (a1 - (l0.length:Int))))
set_option maxHeartbeats 8000000 in
set_option maxRecDepth 100000 in
theorem laws_szIntS.calls (A0:Option Addr) (c0:Nat) (l0:List Int) (a1:Int) (r:Int) (w:World) (hr0:Kd.C (Kd.int .i64) w A0 l0.length l0) (hc0:l0.length≤c0) (h:laws_szIntS.f l0 a1=some r) :
    Calls Try.prog 73 #[.slice A0 l0.length c0,.int .i64 a1] w fun e w'=>e = .returned (.int .i64 r)∧Drawn0 w w':=by
  have HR0:=Aside0.mk hr0
  have HC0:=Aside0.mk hc0
  clear hr0 hc0
  have H:(if (wrap64 (a1 - (l0.length:Int))) < 0 then (some (-1)) else (some (wrap64 (a1 - (l0.length:Int)))))=some r:=h
  clear h
  by_cases c3:(wrap64 (a1 - (l0.length:Int))) < 0
  · rw [if_pos c3] at H
    have c3b0:decide ((wrap64 (a1 - (l0.length:Int))) < 0)=true:=decide_eq_true c3
    clear c3
    obtain rfl:=Option.some.inj H
    go_enter Try.func73,Try.ntmps73
    go_wp2
    go_ret
    exact ⟨by first|rfl|(simp;done)|(simp [*];done),by repeat (first|exact Drawn0.refl _|apply Drawn0.step)⟩
  · rw [if_neg c3] at H
    have c3b0:decide ((wrap64 (a1 - (l0.length:Int))) < 0)=false:=decide_eq_false c3
    clear c3
    obtain rfl:=Option.some.inj H
    go_enter Try.func73,Try.ntmps73
    go_wp2
    go_ret
    exact ⟨by first|rfl|(simp;done)|(simp [*];done),by repeat (first|exact Drawn0.refl _|apply Drawn0.step)⟩
def laws_szSeen.f (A0:ByteArray) (A3:Int) (a1:Int):Option (Int):=if (wrap64 (a1 - (A0.size:Int))) < 0 then (some (-1)) else (some (wrap64 (a1 - (A0.size:Int))))
set_option maxHeartbeats 8000000 in
set_option maxRecDepth 100000 in
theorem laws_szSeen.calls (A0:ByteArray) (A3:Int) (a1:Int) (r:Int) (w:World) (h:laws_szSeen.f A0 A3 a1=some r) :
    Calls Try.prog 111 #[.agg #[.string A0,.int .i64 A3],.int .i64 a1] w fun e w'=>e = .returned (.int .i64 r)∧Below w.heap.size w w':=by
  have hu130:=Try.underlying130
  have HB:=Aside0.mk (Below.refl w.heap.size w)
  have H:(if (wrap64 (a1 - (A0.size:Int))) < 0 then (some (-1)) else (some (wrap64 (a1 - (A0.size:Int)))))=some r:=h
  clear h
  by_cases c3:(wrap64 (a1 - (A0.size:Int))) < 0
  · rw [if_pos c3] at H
    have c3b0:decide ((wrap64 (a1 - (A0.size:Int))) < 0)=true:=decide_eq_true c3
    clear c3
    obtain rfl:=Option.some.inj H
    go_enter Try.func111,Try.ntmps111
    go_wp2_with (first|((with_reducible refine gate_dst (N:=2) rfl ?_);refine bx (N:=2) (cs:=#[.string A0,.int .i64 A3]) (t:=130) ?_;intro A1 hg w4 hbox hb;have A2:=Aside0.mk (hbox);have A4:=Aside0.mk ((by rw [hg];exact (below_size (tb HB)):w.heap.size≤A1));have A5:=Aside0.mk ((by rw [hg];exact (below_size (tb HB)):w.heap.size≤A1));replace HB:=Aside0.mk (below_step (tb HB) hb);clear hb hbox hg;have hcz5__:=c2_ A2;have hfz5__:=f_ A2))
    go_ret
    exact ⟨er,tb HB⟩
  · rw [if_neg c3] at H
    have c3b0:decide ((wrap64 (a1 - (A0.size:Int))) < 0)=false:=decide_eq_false c3
    clear c3
    obtain rfl:=Option.some.inj H
    go_enter Try.func111,Try.ntmps111
    go_wp2_with (first|((with_reducible refine gate_dst (N:=2) rfl ?_);refine bx (N:=2) (cs:=#[.string A0,.int .i64 A3]) (t:=130) ?_;intro A1 hg w6 hbox hb;have A2:=Aside0.mk (hbox);have A4:=Aside0.mk ((by rw [hg];exact (below_size (tb HB)):w.heap.size≤A1));have A5:=Aside0.mk ((by rw [hg];exact (below_size (tb HB)):w.heap.size≤A1));replace HB:=Aside0.mk (below_step (tb HB) hb);clear hb hbox hg;have hcz7__:=c2_ A2;have hfz7__:=f_ A2))
    go_ret
    exact ⟨er,tb HB⟩
end Go.Proofs.Ytlpfmhikahlcoaa.G
