-- texts of this session, merged by a program of it (wip/gen/pack.py)
import Derived.Test.YtlpfmhikahlcoaaKFnExactMachineStep2
import Derived.Test.YtlpfmhikahlcoaaKFnExactMachineStep7
namespace Go.Proofs.Ytlpfmhikahlcoaa.G
open Go.Proofs.Ytlpfmhikahlcoaa.Sh Go.RowKit Go.Proofs.YtlpfmhikahlcoaaW.PrintWords Go.Proofs.YtlpfmhikahlcoaaW.PrintLast Go.Proofs.YtlpfmhikahlcoaaW.PrintMore
attribute [local go_sem] max2_int min2_int max_two min_two max_three min_three max_four min_four
set_option linter.unusedVariables false
set_option linter.unusedSimpArgs false
mutual
def spec_MachineOk.j0:Nat→Bool→List Bool→Int→ByteArray→Int→List Int→Int→Bool→Int→Int→Int→List (S86)→Option (Bool)
  | 0,_,_,_,_,_,_,_,_,_,_,_,_=>none
  | k + 1,x40,x102000,x102001,x102002,x102003,x102004,x102005,x102006,x102007,x102008,x102009,x102010=>if x40=true then (some false) else (if x102006=true then (if x102005 < 0 then (spec_MachineOk.j1 k true x102000 x102001 x102002 x102003 x102004 x102005 x102006 x102007 x102008 x102009 x102010) else (if (x102004.length:Int) > 0 then (spec_MachineOk.j1 k true x102000 x102001 x102002 x102003 x102004 x102005 x102006 x102007 x102008 x102009 x102010) else ((spec_l01In.f x102007 0 1000000000).bind fun Az=>(if Az=true then ((spec_l01In.f x102008 0 1000000000).bind fun Aq=>(if Aq=true then ((spec_l01In.f x102009 0 1000000000).bind fun Ak=>(spec_MachineOk.j1 k (!Ak) x102000 x102001 x102002 x102003 x102004 x102005 x102006 x102007 x102008 x102009 x102010)) else (spec_MachineOk.j1 k true x102000 x102001 x102002 x102003 x102004 x102005 x102006 x102007 x102008 x102009 x102010))) else (spec_MachineOk.j1 k true x102000 x102001 x102002 x102003 x102004 x102005 x102006 x102007 x102008 x102009 x102010))))) else ((spec_l01In.f x102007 0 1000000000).bind fun B0=>(if B0=true then ((spec_l01In.f x102008 0 1000000000).bind fun Ar=>(if Ar=true then ((spec_l01In.f x102009 0 1000000000).bind fun Al=>(spec_MachineOk.j1 k (!Al) x102000 x102001 x102002 x102003 x102004 x102005 x102006 x102007 x102008 x102009 x102010)) else (spec_MachineOk.j1 k true x102000 x102001 x102002 x102003 x102004 x102005 x102006 x102007 x102008 x102009 x102010))) else (spec_MachineOk.j1 k true x102000 x102001 x102002 x102003 x102004 x102005 x102006 x102007 x102008 x102009 x102010))))
def spec_MachineOk.j1:Nat→Bool→List Bool→Int→ByteArray→Int→List Int→Int→Bool→Int→Int→Int→List (S86)→Option (Bool)
  | 0,_,_,_,_,_,_,_,_,_,_,_,_=>none
  | k + 1,x71,x102000,x102001,x102002,x102003,x102004,x102005,x102006,x102007,x102008,x102009,x102010=>if x71=true then (some false) else (spec_MachineOk.l0 k 0 x102000 x102001 x102002 x102003 x102004 x102005 x102006 x102007 x102008 x102009 x102010)
def spec_MachineOk.l0:Nat→Int→List Bool→Int→ByteArray→Int→List Int→Int→Bool→Int→Int→Int→List (S86)→Option (Bool)
  | 0,_,_,_,_,_,_,_,_,_,_,_,_=>none
  | k + 1,x3,x102000,x102001,x102002,x102003,x102004,x102005,x102006,x102007,x102008,x102009,x102010=>if x3 < (x102004.length:Int) then (if 0≤x3 then ((spec_l01In.f (rd x102004 x3) 0 1).bind fun B3=>(if B3=true then (spec_MachineOk.l0 k (wrap64 (x3 + 1)) x102000 x102001 x102002 x102003 x102004 x102005 x102006 x102007 x102008 x102009 x102010) else (some false))) else (none)) else (spec_MachineOk.l1 k 0 x102000 x102001 x102002 x102003 x102004 x102005 x102006 x102007 x102008 x102009 x102010)
def spec_MachineOk.l1:Nat→Int→List Bool→Int→ByteArray→Int→List Int→Int→Bool→Int→Int→Int→List (S86)→Option (Bool)
  | 0,_,_,_,_,_,_,_,_,_,_,_,_=>none
  | k + 1,x4,x102000,x102001,x102002,x102003,x102004,x102005,x102006,x102007,x102008,x102009,x102010=>if x4 < (x102010.length:Int) then (if 0≤x4 then ((spec_l01In.f ((rd_T86 x102010 x4).f1) 0 1).bind fun B4=>(if B4=true then (spec_MachineOk.l2 k x4 0 x102000 x102001 x102002 x102003 x102004 x102005 x102006 x102007 x102008 x102009 x102010) else (some false))) else (none)) else (some true)
def spec_MachineOk.l2:Nat→Int→Int→List Bool→Int→ByteArray→Int→List Int→Int→Bool→Int→Int→Int→List (S86)→Option (Bool)
  | 0,_,_,_,_,_,_,_,_,_,_,_,_,_=>none
  | k + 1,x4,x5,x102000,x102001,x102002,x102003,x102004,x102005,x102006,x102007,x102008,x102009,x102010=>if x5 < x4 then (if 0≤x5 then (if x5 < (x102010.length:Int) then (if 0≤x4 then (if x4 < (x102010.length:Int) then (if ((rd_T86 x102010 x5).f0).toList=((rd_T86 x102010 x4).f0).toList then (some false) else (spec_MachineOk.l2 k x4 (wrap64 (x5 + 1)) x102000 x102001 x102002 x102003 x102004 x102005 x102006 x102007 x102008 x102009 x102010)) else (none)) else (none)) else (none)) else (none)) else (spec_MachineOk.l1 k (wrap64 (x4 + 1)) x102000 x102001 x102002 x102003 x102004 x102005 x102006 x102007 x102008 x102009 x102010)
end
def spec_MachineOk.f (k:Nat) (A8:List Bool) (A3:Int) (Ab:ByteArray) (A5:Int) (A2:List Int) (Ac:Int) (Ad:Bool) (A7:Int) (A9:Int) (Aa:Int) (A0:List (S86)):Option (Bool):=(spec_l08Ok.f k A8 A3 Ab).bind fun B2=>(if B2=true then ((spec_l01In.f A5 0 40).bind fun At=>(if At=true then (if (A0.length:Int) > A5 then (spec_MachineOk.j0 k true A8 A3 Ab A5 A2 Ac Ad A7 A9 Aa A0) else (if (A2.length:Int) > A3 then (spec_MachineOk.j0 k true A8 A3 Ab A5 A2 Ac Ad A7 A9 Aa A0) else ((spec_l01In.f Ac (-1) 1).bind fun Am=>(spec_MachineOk.j0 k (!Am) A8 A3 Ab A5 A2 Ac Ad A7 A9 Aa A0)))) else (spec_MachineOk.j0 k true A8 A3 Ab A5 A2 Ac Ad A7 A9 Aa A0))) else (spec_MachineOk.j0 k true A8 A3 Ab A5 A2 Ac Ad A7 A9 Aa A0))
set_option maxHeartbeats 80000000 in
set_option maxRecDepth 100000 in
theorem spec_MachineOk.calls (k:Nat) (Au:Option Addr) (Av:Nat) (A8:List Bool) (A3:Int) (Ab:ByteArray) (A5:Int) (Aw:Option Addr) (Ax:Nat) (A2:List Int) (Ac:Int) (Ad:Bool) (A7:Int) (A9:Int) (Aa:Int) (Ao:Option Addr) (An:Nat) (A0:List (S86)) (r:Bool) (w:World) (hr0_0:Kd.C Kd.bool w Au A8.length A8) (hc0_0:A8.length≤Av) (hr0_4:Kd.C (Kd.int .i64) w Aw A2.length A2) (hc0_4:A2.length≤Ax) (hr0_10:Kd.C k86 w Ao A0.length A0) (hc0_10:A0.length≤An) (h:spec_MachineOk.f k A8 A3 Ab A5 A2 Ac Ad A7 A9 Aa A0=some r) :
  Calls Try.prog 30 #[.agg #[.slice Au A8.length Av,.int .i64 A3,.string Ab,.int .i64 A5,.slice Aw A2.length Ax,.int .i64 Ac,.bool Ad,.int .i64 A7,.int .i64 A9,.int .i64 Aa,.slice Ao A0.length An]] w fun e w'=>e = .returned (.bool r)∧Below w.heap.size w w':=by
 have hu36:=Try.underlying36;have hu29:=Try.underlying29;have Ag:=Aside0.mk hr0_0;have Ah:=Aside0.mk hc0_0;clear hr0_0 hc0_0;have B5:=Aside0.mk hr0_4;have HC0_4:=Aside0.mk hc0_4;clear hr0_4 hc0_4;have Ap:=Aside0.mk hr0_10;have HC0_10:=Aside0.mk hc0_10;clear hr0_10 hc0_10;have HB:=Aside0.mk (Below.refl w.heap.size w)
 have H:((spec_l08Ok.f k A8 A3 Ab).bind fun B2=>(if B2=true then ((spec_l01In.f A5 0 40).bind fun At=>(if At=true then (if (A0.length:Int) > A5 then (spec_MachineOk.j0 k true A8 A3 Ab A5 A2 Ac Ad A7 A9 Aa A0) else (if (A2.length:Int) > A3 then (spec_MachineOk.j0 k true A8 A3 Ab A5 A2 Ac Ad A7 A9 Aa A0) else ((spec_l01In.f Ac (-1) 1).bind fun Am=>(spec_MachineOk.j0 k (!Am) A8 A3 Ab A5 A2 Ac Ad A7 A9 Aa A0)))) else (spec_MachineOk.j0 k true A8 A3 Ab A5 A2 Ac Ad A7 A9 Aa A0))) else (spec_MachineOk.j0 k true A8 A3 Ab A5 A2 Ac Ad A7 A9 Aa A0)))=some r:=h
 clear h;have HC2:=Aside0.mk H;clear H
 go_enter Try.func30,Try.ntmps30
 go_upto_region 1 with (first|((with_reducible refine gate_dst (N:=1) rfl ?_);(try (refine gate_guard (by rfl) ?_;dsimp only));refine bx (N:=1) (cs:=#[.slice Au A8.length Av,.int .i64 A3,.string Ab,.int .i64 A5,.slice Aw A2.length Ax,.int .i64 Ac,.bool Ad,.int .i64 A7,.int .i64 A9,.int .i64 Aa,.slice Ao A0.length An]) (t:=36) ?_;intro As hg w3 hbox hb;have A1:=Aside0.mk (hbox);have B6:=bz0 hg HB;have Af:=bz0 hg HB;replace HB:=bs0 HB hb;clear hb hbox hg))
 repeat (go_quiet (first|((with_reducible refine gate_dst (N:=1) rfl ?_);(try (refine gate_guard (by rfl) ?_;dsimp only));refine bx (N:=1) (cs:=#[.slice Au A8.length Av,.int .i64 A3,.string Ab,.int .i64 A5,.slice Aw A2.length Ax,.int .i64 Ac,.bool Ad,.int .i64 A7,.int .i64 A9,.int .i64 Aa,.slice Ao A0.length An]) (t:=36) ?_;intro As hg w3 hbox hb;have A1:=Aside0.mk (hbox);have B6:=bz0 hg HB;have Af:=bz0 hg HB;replace HB:=bs0 HB hb;clear hb hbox hg));go_upto_region 1 with (first|((with_reducible refine gate_dst (N:=1) rfl ?_);(try (refine gate_guard (by rfl) ?_;dsimp only));refine bx (N:=1) (cs:=#[.slice Au A8.length Av,.int .i64 A3,.string Ab,.int .i64 A5,.slice Aw A2.length Ax,.int .i64 Ac,.bool Ad,.int .i64 A7,.int .i64 A9,.int .i64 Aa,.slice Ao A0.length An]) (t:=36) ?_;intro As hg w3 hbox hb;have A1:=Aside0.mk (hbox);have B6:=bz0 hg HB;have Af:=bz0 hg HB;replace HB:=bs0 HB hb;clear hb hbox hg)))
 (try simp only [Act.put,List.setIfInBounds_toArray,List.set_cons_zero,List.set_cons_succ])
 go_cut [40] (fun v40 wc=>∃ (kq:Nat) (B1:Bool),v40 = .bool B1∧Aside0 (spec_MachineOk.j0 kq B1 A8 A3 Ab A5 A2 Ac Ad A7 A9 Aa A0=some r)∧Aside0 (kq≤k)∧Aside0 (wc.heap[As]? = some (.cells #[(.slice Au A8.length Av),.int .i64 A3,.string Ab,.int .i64 A5,(.slice Aw A2.length Ax),.int .i64 Ac,.bool Ad,.int .i64 A7,.int .i64 A9,.int .i64 Aa,(.slice Ao A0.length An)] 36 (0,0)))∧Aside0 (Below w.heap.size w wc))
 case first =>
  have H:=HC2.out;clear HC2
  replace H:=Option.bind_eq_some_iff.mp H
  obtain ⟨B2,A40,H⟩:=H
  replace H:(if B2=true then ((spec_l01In.f A5 0 40).bind fun At=>(if At=true then (if (A0.length:Int) > A5 then (spec_MachineOk.j0 k true A8 A3 Ab A5 A2 Ac Ad A7 A9 Aa A0) else (if (A2.length:Int) > A3 then (spec_MachineOk.j0 k true A8 A3 Ab A5 A2 Ac Ad A7 A9 Aa A0) else ((spec_l01In.f Ac (-1) 1).bind fun Am=>(spec_MachineOk.j0 k (!Am) A8 A3 Ab A5 A2 Ac Ad A7 A9 Aa A0)))) else (spec_MachineOk.j0 k true A8 A3 Ab A5 A2 Ac Ad A7 A9 Aa A0))) else (spec_MachineOk.j0 k true A8 A3 Ab A5 A2 Ac Ad A7 A9 Aa A0))=some r:=H
  have A4:=Aside0.mk A40;clear A40
  by_cases c5:B2=true
  ·subst c5
   have H1:((spec_l01In.f A5 0 40).bind fun At=>(if At=true then (if (A0.length:Int) > A5 then (spec_MachineOk.j0 k true A8 A3 Ab A5 A2 Ac Ad A7 A9 Aa A0) else (if (A2.length:Int) > A3 then (spec_MachineOk.j0 k true A8 A3 Ab A5 A2 Ac Ad A7 A9 Aa A0) else ((spec_l01In.f Ac (-1) 1).bind fun Am=>(spec_MachineOk.j0 k (!Am) A8 A3 Ab A5 A2 Ac Ad A7 A9 Aa A0)))) else (spec_MachineOk.j0 k true A8 A3 Ab A5 A2 Ac Ad A7 A9 Aa A0)))=some r:=by rw [if_pos rfl] at H;exact H
   clear H;have H:=H1;clear H1
   replace H:=Option.bind_eq_some_iff.mp H
   obtain ⟨At,A60,H⟩:=H
   replace H:(if At=true then (if (A0.length:Int) > A5 then (spec_MachineOk.j0 k true A8 A3 Ab A5 A2 Ac Ad A7 A9 Aa A0) else (if (A2.length:Int) > A3 then (spec_MachineOk.j0 k true A8 A3 Ab A5 A2 Ac Ad A7 A9 Aa A0) else ((spec_l01In.f Ac (-1) 1).bind fun Am=>(spec_MachineOk.j0 k (!Am) A8 A3 Ab A5 A2 Ac Ad A7 A9 Aa A0)))) else (spec_MachineOk.j0 k true A8 A3 Ab A5 A2 Ac Ad A7 A9 Aa A0))=some r:=H
   have A6:=Aside0.mk A60;clear A60
   by_cases c7:At=true
   ·subst c7
    have H1:(if (A0.length:Int) > A5 then (spec_MachineOk.j0 k true A8 A3 Ab A5 A2 Ac Ad A7 A9 Aa A0) else (if (A2.length:Int) > A3 then (spec_MachineOk.j0 k true A8 A3 Ab A5 A2 Ac Ad A7 A9 Aa A0) else ((spec_l01In.f Ac (-1) 1).bind fun Am=>(spec_MachineOk.j0 k (!Am) A8 A3 Ab A5 A2 Ac Ad A7 A9 Aa A0))))=some r:=by rw [if_pos rfl] at H;exact H
    clear H;have H:=H1;clear H1
    by_cases c8:(A0.length:Int) > A5
    ·rw [if_pos c8] at H
     have c8b0:decide (A5 < (A0.length:Int))=true:=decide_eq_true c8;clear c8
     (first|rw [c8b0]|(simp only [i64_w,i32_w];rw [c8b0])|skip)
     have H':=Aside0.mk H
     clear H;have hcz9__:=c11_ A1;have hfz9__:=f_ A1
     go_wp2_with (first|(go_at_call 57;(try simp only [i64_w,i32_w]);(with_reducible refine (spec_l08Ok.calls k _ _ A8 A3 Ab true _ ?side1 ?side2 A4.out).mono ?_);(case side1=>exact cw (Kd.C_below Ag.out HB.out));(case side2=>exact Ah.out);rintro e w10 ⟨rfl,hb⟩;replace A1:=bb A1 hb;replace HB:=bs1 HB hb Af;(try clear hb);(try clear hb2);(try clear hk);(try clear hi);have hcz11__:=c11_ A1;have hfz11__:=f_ A1)|(go_at_call 63;(try simp only [i64_w,i32_w]);(with_reducible refine (spec_l01In.calls A5 0 40 true _ A6.out).mono ?_);rintro e w' ⟨rfl,⟨nd,rfl⟩⟩;(try exact dd)))
     repeat (go_quiet (first|(go_at_call 57;(try simp only [i64_w,i32_w]);(with_reducible refine (spec_l08Ok.calls k _ _ A8 A3 Ab true _ ?side1 ?side2 A4.out).mono ?_);(case side1=>exact cw (Kd.C_below Ag.out HB.out));(case side2=>exact Ah.out);rintro e w10 ⟨rfl,hb⟩;replace A1:=bb A1 hb;replace HB:=bs1 HB hb Af;(try clear hb);(try clear hb2);(try clear hk);(try clear hi);have hcz11__:=c11_ A1;have hfz11__:=f_ A1)|(go_at_call 63;(try simp only [i64_w,i32_w]);(with_reducible refine (spec_l01In.calls A5 0 40 true _ A6.out).mono ?_);rintro e w' ⟨rfl,⟨nd,rfl⟩⟩;(try exact dd)));try go_wp2_with (first|(go_at_call 57;(try simp only [i64_w,i32_w]);(with_reducible refine (spec_l08Ok.calls k _ _ A8 A3 Ab true _ ?side1 ?side2 A4.out).mono ?_);(case side1=>exact cw (Kd.C_below Ag.out HB.out));(case side2=>exact Ah.out);rintro e w10 ⟨rfl,hb⟩;replace A1:=bb A1 hb;replace HB:=bs1 HB hb Af;(try clear hb);(try clear hb2);(try clear hk);(try clear hi);have hcz11__:=c11_ A1;have hfz11__:=f_ A1)|(go_at_call 63;(try simp only [i64_w,i32_w]);(with_reducible refine (spec_l01In.calls A5 0 40 true _ A6.out).mono ?_);rintro e w' ⟨rfl,⟨nd,rfl⟩⟩;(try exact dd))))
     go_meet
     case rel=>exact ⟨_,(true),(by first|rfl|(simp;done)|(simp [*];done)),H',⟨by first|omega|exact Nat.le_refl _⟩,⟨dr A1⟩,⟨by exact tb HB⟩⟩
    ·rw [if_neg c8] at H
     have c8b0:decide (A5 < (A0.length:Int))=false:=decide_eq_false c8;clear c8
     (first|rw [c8b0]|(simp only [i64_w,i32_w];rw [c8b0])|skip)
     by_cases c12:(A2.length:Int) > A3
     ·rw [if_pos c12] at H
      have c12b0:decide (A3 < (A2.length:Int))=true:=decide_eq_true c12;clear c12
      have H':=Aside0.mk H
      clear H;have hcz13__:=c11_ A1;have hfz13__:=f_ A1
      go_wp2_with (first|(go_at_call 57;(try simp only [i64_w,i32_w]);(with_reducible refine (spec_l08Ok.calls k _ _ A8 A3 Ab true _ ?side1 ?side2 A4.out).mono ?_);(case side1=>exact cw (Kd.C_below Ag.out HB.out));(case side2=>exact Ah.out);rintro e w14 ⟨rfl,hb⟩;replace A1:=bb A1 hb;replace HB:=bs1 HB hb Af;(try clear hb);(try clear hb2);(try clear hk);(try clear hi);have hcz15__:=c11_ A1;have hfz15__:=f_ A1)|(go_at_call 63;(try simp only [i64_w,i32_w]);(with_reducible refine (spec_l01In.calls A5 0 40 true _ A6.out).mono ?_);rintro e w' ⟨rfl,⟨nd,rfl⟩⟩;(try exact dd)))
      repeat (go_quiet (first|(go_at_call 57;(try simp only [i64_w,i32_w]);(with_reducible refine (spec_l08Ok.calls k _ _ A8 A3 Ab true _ ?side1 ?side2 A4.out).mono ?_);(case side1=>exact cw (Kd.C_below Ag.out HB.out));(case side2=>exact Ah.out);rintro e w14 ⟨rfl,hb⟩;replace A1:=bb A1 hb;replace HB:=bs1 HB hb Af;(try clear hb);(try clear hb2);(try clear hk);(try clear hi);have hcz15__:=c11_ A1;have hfz15__:=f_ A1)|(go_at_call 63;(try simp only [i64_w,i32_w]);(with_reducible refine (spec_l01In.calls A5 0 40 true _ A6.out).mono ?_);rintro e w' ⟨rfl,⟨nd,rfl⟩⟩;(try exact dd)));try go_wp2_with (first|(go_at_call 57;(try simp only [i64_w,i32_w]);(with_reducible refine (spec_l08Ok.calls k _ _ A8 A3 Ab true _ ?side1 ?side2 A4.out).mono ?_);(case side1=>exact cw (Kd.C_below Ag.out HB.out));(case side2=>exact Ah.out);rintro e w14 ⟨rfl,hb⟩;replace A1:=bb A1 hb;replace HB:=bs1 HB hb Af;(try clear hb);(try clear hb2);(try clear hk);(try clear hi);have hcz15__:=c11_ A1;have hfz15__:=f_ A1)|(go_at_call 63;(try simp only [i64_w,i32_w]);(with_reducible refine (spec_l01In.calls A5 0 40 true _ A6.out).mono ?_);rintro e w' ⟨rfl,⟨nd,rfl⟩⟩;(try exact dd))))
      go_meet
      case rel=>exact ⟨_,(true),(by first|rfl|(simp;done)|(simp [*];done)),H',⟨by first|omega|exact Nat.le_refl _⟩,⟨dr A1⟩,⟨by exact tb HB⟩⟩
     ·rw [if_neg c12] at H
      have c12b0:decide (A3 < (A2.length:Int))=false:=decide_eq_false c12;clear c12
      replace H:=Option.bind_eq_some_iff.mp H
      obtain ⟨Am,A160,H⟩:=H
      replace H:(spec_MachineOk.j0 k (!Am) A8 A3 Ab A5 A2 Ac Ad A7 A9 Aa A0)=some r:=H
      have A16:=Aside0.mk A160;clear A160
      have H':=Aside0.mk H
      clear H;have hcz17__:=c11_ A1;have hfz17__:=f_ A1
      go_wp2_with (first|(go_at_call 57;(try simp only [i64_w,i32_w]);(with_reducible refine (spec_l08Ok.calls k _ _ A8 A3 Ab true _ ?side1 ?side2 A4.out).mono ?_);(case side1=>exact cw (Kd.C_below Ag.out HB.out));(case side2=>exact Ah.out);rintro e w18 ⟨rfl,hb⟩;replace A1:=bb A1 hb;replace HB:=bs1 HB hb Af;(try clear hb);(try clear hb2);(try clear hk);(try clear hi);have hcz19__:=c11_ A1;have hfz19__:=f_ A1)|(go_at_call 63;(try simp only [i64_w,i32_w]);(with_reducible refine (spec_l01In.calls A5 0 40 true _ A6.out).mono ?_);rintro e w' ⟨rfl,⟨nd,rfl⟩⟩;(try exact dd))|(go_at_call 63;(try simp only [i64_w,i32_w]);(with_reducible refine (spec_l01In.calls Ac (-1) 1 Am _ A16.out).mono ?_);rintro e w' ⟨rfl,⟨nd,rfl⟩⟩;(try exact dd)))
      repeat (go_quiet (first|(go_at_call 57;(try simp only [i64_w,i32_w]);(with_reducible refine (spec_l08Ok.calls k _ _ A8 A3 Ab true _ ?side1 ?side2 A4.out).mono ?_);(case side1=>exact cw (Kd.C_below Ag.out HB.out));(case side2=>exact Ah.out);rintro e w18 ⟨rfl,hb⟩;replace A1:=bb A1 hb;replace HB:=bs1 HB hb Af;(try clear hb);(try clear hb2);(try clear hk);(try clear hi);have hcz19__:=c11_ A1;have hfz19__:=f_ A1)|(go_at_call 63;(try simp only [i64_w,i32_w]);(with_reducible refine (spec_l01In.calls A5 0 40 true _ A6.out).mono ?_);rintro e w' ⟨rfl,⟨nd,rfl⟩⟩;(try exact dd))|(go_at_call 63;(try simp only [i64_w,i32_w]);(with_reducible refine (spec_l01In.calls Ac (-1) 1 Am _ A16.out).mono ?_);rintro e w' ⟨rfl,⟨nd,rfl⟩⟩;(try exact dd)));try go_wp2_with (first|(go_at_call 57;(try simp only [i64_w,i32_w]);(with_reducible refine (spec_l08Ok.calls k _ _ A8 A3 Ab true _ ?side1 ?side2 A4.out).mono ?_);(case side1=>exact cw (Kd.C_below Ag.out HB.out));(case side2=>exact Ah.out);rintro e w18 ⟨rfl,hb⟩;replace A1:=bb A1 hb;replace HB:=bs1 HB hb Af;(try clear hb);(try clear hb2);(try clear hk);(try clear hi);have hcz19__:=c11_ A1;have hfz19__:=f_ A1)|(go_at_call 63;(try simp only [i64_w,i32_w]);(with_reducible refine (spec_l01In.calls A5 0 40 true _ A6.out).mono ?_);rintro e w' ⟨rfl,⟨nd,rfl⟩⟩;(try exact dd))|(go_at_call 63;(try simp only [i64_w,i32_w]);(with_reducible refine (spec_l01In.calls Ac (-1) 1 Am _ A16.out).mono ?_);rintro e w' ⟨rfl,⟨nd,rfl⟩⟩;(try exact dd))))
      go_meet
      case rel=>exact ⟨_,(!Am),(by first|rfl|(simp;done)|(simp [*];done)),H',⟨by first|omega|exact Nat.le_refl _⟩,⟨dr A1⟩,⟨by exact tb HB⟩⟩
   ·replace c7:=Bool.eq_false_iff.mpr c7
    subst c7
    have H1:(spec_MachineOk.j0 k true A8 A3 Ab A5 A2 Ac Ad A7 A9 Aa A0)=some r:=by rw [if_neg (show ¬ (false=true) by decide)] at H;exact H
    clear H;have H:=H1;clear H1
    have H':=Aside0.mk H
    clear H;have hcz20__:=c11_ A1;have hfz20__:=f_ A1
    go_wp2_with (first|(go_at_call 57;(try simp only [i64_w,i32_w]);(with_reducible refine (spec_l08Ok.calls k _ _ A8 A3 Ab true _ ?side1 ?side2 A4.out).mono ?_);(case side1=>exact cw (Kd.C_below Ag.out HB.out));(case side2=>exact Ah.out);rintro e w21 ⟨rfl,hb⟩;replace A1:=bb A1 hb;replace HB:=bs1 HB hb Af;(try clear hb);(try clear hb2);(try clear hk);(try clear hi);have hcz22__:=c11_ A1;have hfz22__:=f_ A1)|(go_at_call 63;(try simp only [i64_w,i32_w]);(with_reducible refine (spec_l01In.calls A5 0 40 false _ A6.out).mono ?_);rintro e w' ⟨rfl,⟨nd,rfl⟩⟩;(try exact dd)))
    repeat (go_quiet (first|(go_at_call 57;(try simp only [i64_w,i32_w]);(with_reducible refine (spec_l08Ok.calls k _ _ A8 A3 Ab true _ ?side1 ?side2 A4.out).mono ?_);(case side1=>exact cw (Kd.C_below Ag.out HB.out));(case side2=>exact Ah.out);rintro e w21 ⟨rfl,hb⟩;replace A1:=bb A1 hb;replace HB:=bs1 HB hb Af;(try clear hb);(try clear hb2);(try clear hk);(try clear hi);have hcz22__:=c11_ A1;have hfz22__:=f_ A1)|(go_at_call 63;(try simp only [i64_w,i32_w]);(with_reducible refine (spec_l01In.calls A5 0 40 false _ A6.out).mono ?_);rintro e w' ⟨rfl,⟨nd,rfl⟩⟩;(try exact dd)));try go_wp2_with (first|(go_at_call 57;(try simp only [i64_w,i32_w]);(with_reducible refine (spec_l08Ok.calls k _ _ A8 A3 Ab true _ ?side1 ?side2 A4.out).mono ?_);(case side1=>exact cw (Kd.C_below Ag.out HB.out));(case side2=>exact Ah.out);rintro e w21 ⟨rfl,hb⟩;replace A1:=bb A1 hb;replace HB:=bs1 HB hb Af;(try clear hb);(try clear hb2);(try clear hk);(try clear hi);have hcz22__:=c11_ A1;have hfz22__:=f_ A1)|(go_at_call 63;(try simp only [i64_w,i32_w]);(with_reducible refine (spec_l01In.calls A5 0 40 false _ A6.out).mono ?_);rintro e w' ⟨rfl,⟨nd,rfl⟩⟩;(try exact dd))))
    go_meet
    case rel=>exact ⟨_,(true),(by first|rfl|(simp;done)|(simp [*];done)),H',⟨by first|omega|exact Nat.le_refl _⟩,⟨dr A1⟩,⟨by exact tb HB⟩⟩
  ·replace c5:=Bool.eq_false_iff.mpr c5
   subst c5
   have H1:(spec_MachineOk.j0 k true A8 A3 Ab A5 A2 Ac Ad A7 A9 Aa A0)=some r:=by rw [if_neg (show ¬ (false=true) by decide)] at H;exact H
   clear H;have H:=H1;clear H1
   have H':=Aside0.mk H
   clear H;have hcz23__:=c11_ A1;have hfz23__:=f_ A1
   go_wp2_with (first|(go_at_call 57;(try simp only [i64_w,i32_w]);(with_reducible refine (spec_l08Ok.calls k _ _ A8 A3 Ab false _ ?side1 ?side2 A4.out).mono ?_);(case side1=>exact cw (Kd.C_below Ag.out HB.out));(case side2=>exact Ah.out);rintro e w24 ⟨rfl,hb⟩;replace A1:=bb A1 hb;replace HB:=bs1 HB hb Af;(try clear hb);(try clear hb2);(try clear hk);(try clear hi)))
   repeat (go_quiet (first|(go_at_call 57;(try simp only [i64_w,i32_w]);(with_reducible refine (spec_l08Ok.calls k _ _ A8 A3 Ab false _ ?side1 ?side2 A4.out).mono ?_);(case side1=>exact cw (Kd.C_below Ag.out HB.out));(case side2=>exact Ah.out);rintro e w24 ⟨rfl,hb⟩;replace A1:=bb A1 hb;replace HB:=bs1 HB hb Af;(try clear hb);(try clear hb2);(try clear hk);(try clear hi)));try go_wp2_with (first|(go_at_call 57;(try simp only [i64_w,i32_w]);(with_reducible refine (spec_l08Ok.calls k _ _ A8 A3 Ab false _ ?side1 ?side2 A4.out).mono ?_);(case side1=>exact cw (Kd.C_below Ag.out HB.out));(case side2=>exact Ah.out);rintro e w24 ⟨rfl,hb⟩;replace A1:=bb A1 hb;replace HB:=bs1 HB hb Af;(try clear hb);(try clear hb2);(try clear hk);(try clear hi))))
   go_meet
   case rel=>exact ⟨_,(true),(by first|rfl|(simp;done)|(simp [*];done)),H',⟨by first|omega|exact Nat.le_refl _⟩,⟨dr A1⟩,⟨by exact tb HB⟩⟩
 case rest =>
  clear HC2
  (try clear c1);(try clear p2);(try clear c3);(try clear c5);(try clear c7);(try clear c8);(try clear c8b0);(try clear c12);(try clear c12b0);(try clear hcz11__);(try clear hcz13__);(try clear hcz15__);(try clear hcz17__);(try clear hcz19__);(try clear hcz20__);(try clear hcz22__);(try clear hcz23__);(try clear hcz9__);(try clear hfz11__);(try clear hfz13__);(try clear hfz15__);(try clear hfz17__);(try clear hfz19__);(try clear hfz20__);(try clear hfz22__);(try clear hfz23__);(try clear hfz9__)
  obtain ⟨kq,B1,rfl,HA,HJ1,A1,HB⟩:=hcut
  cases kq with
    | zero=>exact absurd HA.out (by simp [spec_MachineOk.j0])
    | succ kj1 =>
   have H:=HA.out;clear HA
   simp only [spec_MachineOk.j0] at H
   by_cases c25:B1=true
   ·subst c25
    have H1:(some false)=some r:=by rw [if_pos rfl] at H;exact H
    clear H;have H:=H1;clear H1
    obtain rfl:=Option.some.inj H
    go_wp2
    repeat (go_quiet (fail);try go_wp2)
    go_ret
    exact ⟨er,tb HB⟩
   ·replace c25:=Bool.eq_false_iff.mpr c25
    subst c25
    have H1:(if Ad=true then (if Ac < 0 then (spec_MachineOk.j1 kj1 true A8 A3 Ab A5 A2 Ac Ad A7 A9 Aa A0) else (if (A2.length:Int) > 0 then (spec_MachineOk.j1 kj1 true A8 A3 Ab A5 A2 Ac Ad A7 A9 Aa A0) else ((spec_l01In.f A7 0 1000000000).bind fun Az=>(if Az=true then ((spec_l01In.f A9 0 1000000000).bind fun Aq=>(if Aq=true then ((spec_l01In.f Aa 0 1000000000).bind fun Ak=>(spec_MachineOk.j1 kj1 (!Ak) A8 A3 Ab A5 A2 Ac Ad A7 A9 Aa A0)) else (spec_MachineOk.j1 kj1 true A8 A3 Ab A5 A2 Ac Ad A7 A9 Aa A0))) else (spec_MachineOk.j1 kj1 true A8 A3 Ab A5 A2 Ac Ad A7 A9 Aa A0))))) else ((spec_l01In.f A7 0 1000000000).bind fun B0=>(if B0=true then ((spec_l01In.f A9 0 1000000000).bind fun Ar=>(if Ar=true then ((spec_l01In.f Aa 0 1000000000).bind fun Al=>(spec_MachineOk.j1 kj1 (!Al) A8 A3 Ab A5 A2 Ac Ad A7 A9 Aa A0)) else (spec_MachineOk.j1 kj1 true A8 A3 Ab A5 A2 Ac Ad A7 A9 Aa A0))) else (spec_MachineOk.j1 kj1 true A8 A3 Ab A5 A2 Ac Ad A7 A9 Aa A0))))=some r:=by rw [if_neg (show ¬ (false=true) by decide)] at H;exact H
    clear H;have H:=H1;clear H1;have HC26:=Aside0.mk H;clear H
    go_upto_region 3 with (fail)
    repeat (go_quiet (fail);go_upto_region 3 with (fail))
    go_cut [71] (fun v71 wc=>∃ (kq:Nat) (Ay:Bool),v71 = .bool Ay∧Aside0 (spec_MachineOk.j1 kq Ay A8 A3 Ab A5 A2 Ac Ad A7 A9 Aa A0=some r)∧Aside0 (kq≤kj1)∧Aside0 (wc.heap[As]? = some (.cells #[(.slice Au A8.length Av),.int .i64 A3,.string Ab,.int .i64 A5,(.slice Aw A2.length Ax),.int .i64 Ac,.bool Ad,.int .i64 A7,.int .i64 A9,.int .i64 Aa,(.slice Ao A0.length An)] 36 (0,0)))∧Aside0 (Below w.heap.size w wc))
    case first =>
     have H:=HC26.out;clear HC26
     by_cases c27:Ad=true
     ·subst c27
      have H1:(if Ac < 0 then (spec_MachineOk.j1 kj1 true A8 A3 Ab A5 A2 Ac true A7 A9 Aa A0) else (if (A2.length:Int) > 0 then (spec_MachineOk.j1 kj1 true A8 A3 Ab A5 A2 Ac true A7 A9 Aa A0) else ((spec_l01In.f A7 0 1000000000).bind fun Az=>(if Az=true then ((spec_l01In.f A9 0 1000000000).bind fun Aq=>(if Aq=true then ((spec_l01In.f Aa 0 1000000000).bind fun Ak=>(spec_MachineOk.j1 kj1 (!Ak) A8 A3 Ab A5 A2 Ac true A7 A9 Aa A0)) else (spec_MachineOk.j1 kj1 true A8 A3 Ab A5 A2 Ac true A7 A9 Aa A0))) else (spec_MachineOk.j1 kj1 true A8 A3 Ab A5 A2 Ac true A7 A9 Aa A0)))))=some r:=by rw [if_pos rfl] at H;exact H
      clear H;have H:=H1;clear H1
      by_cases c28:Ac < 0
      ·rw [if_pos c28] at H
       have c28b0:decide (Ac < 0)=true:=decide_eq_true c28;clear c28
       (first|rw [c28b0]|(simp only [i64_w,i32_w];rw [c28b0])|skip)
       have H':=Aside0.mk H
       clear H;have hcz29__:=c11_ A1;have hfz29__:=f_ A1
       go_wp2
       repeat (go_quiet (fail);try go_wp2)
       go_meet
       case rel=>exact ⟨_,(true),(by first|rfl|(simp;done)|(simp [*];done)),H',⟨by have:=HJ1.out;first|omega|exact Nat.le_refl _⟩,⟨dr A1⟩,⟨by exact tb HB⟩⟩
      ·rw [if_neg c28] at H
       have c28b0:decide (Ac < 0)=false:=decide_eq_false c28;clear c28
       (first|rw [c28b0]|(simp only [i64_w,i32_w];rw [c28b0])|skip)
       by_cases c30:(A2.length:Int) > 0
       ·rw [if_pos c30] at H
        have c30b0:decide (0 < (A2.length:Int))=true:=decide_eq_true c30
        have c30b1:decide (0 < A2.length)=true:=decide_eq_true (by omega)
        clear c30
        have H':=Aside0.mk H
        clear H;have hcz31__:=c11_ A1;have hfz31__:=f_ A1
        go_wp2
        repeat (go_quiet (fail);try go_wp2)
        go_meet
        case rel=>exact ⟨_,(true),(by first|rfl|(simp;done)|(simp [*];done)),H',⟨by have:=HJ1.out;first|omega|exact Nat.le_refl _⟩,⟨dr A1⟩,⟨by exact tb HB⟩⟩
       ·rw [if_neg c30] at H
        have c30b0:decide (0 < (A2.length:Int))=false:=decide_eq_false c30
        have c30b1:decide (0 < A2.length)=false:=decide_eq_false (by omega)
        clear c30
        replace H:=Option.bind_eq_some_iff.mp H
        obtain ⟨Az,A320,H⟩:=H
        replace H:(if Az=true then ((spec_l01In.f A9 0 1000000000).bind fun Aq=>(if Aq=true then ((spec_l01In.f Aa 0 1000000000).bind fun Ak=>(spec_MachineOk.j1 kj1 (!Ak) A8 A3 Ab A5 A2 Ac true A7 A9 Aa A0)) else (spec_MachineOk.j1 kj1 true A8 A3 Ab A5 A2 Ac true A7 A9 Aa A0))) else (spec_MachineOk.j1 kj1 true A8 A3 Ab A5 A2 Ac true A7 A9 Aa A0))=some r:=H
        have A32:=Aside0.mk A320;clear A320
        by_cases c33:Az=true
        ·subst c33
         have H1:((spec_l01In.f A9 0 1000000000).bind fun Aq=>(if Aq=true then ((spec_l01In.f Aa 0 1000000000).bind fun Ak=>(spec_MachineOk.j1 kj1 (!Ak) A8 A3 Ab A5 A2 Ac true A7 A9 Aa A0)) else (spec_MachineOk.j1 kj1 true A8 A3 Ab A5 A2 Ac true A7 A9 Aa A0)))=some r:=by rw [if_pos rfl] at H;exact H
         clear H;have H:=H1;clear H1
         replace H:=Option.bind_eq_some_iff.mp H
         obtain ⟨Aq,A340,H⟩:=H
         replace H:(if Aq=true then ((spec_l01In.f Aa 0 1000000000).bind fun Ak=>(spec_MachineOk.j1 kj1 (!Ak) A8 A3 Ab A5 A2 Ac true A7 A9 Aa A0)) else (spec_MachineOk.j1 kj1 true A8 A3 Ab A5 A2 Ac true A7 A9 Aa A0))=some r:=H
         have A34:=Aside0.mk A340;clear A340
         by_cases c35:Aq=true
         ·subst c35
          have H1:((spec_l01In.f Aa 0 1000000000).bind fun Ak=>(spec_MachineOk.j1 kj1 (!Ak) A8 A3 Ab A5 A2 Ac true A7 A9 Aa A0))=some r:=by rw [if_pos rfl] at H;exact H
          clear H;have H:=H1;clear H1
          replace H:=Option.bind_eq_some_iff.mp H
          obtain ⟨Ak,A360,H⟩:=H
          replace H:(spec_MachineOk.j1 kj1 (!Ak) A8 A3 Ab A5 A2 Ac true A7 A9 Aa A0)=some r:=H
          have A36:=Aside0.mk A360;clear A360
          have H':=Aside0.mk H
          clear H;have hcz37__:=c11_ A1;have hfz37__:=f_ A1
          go_wp2_with (first|(go_at_call 63;(try simp only [i64_w,i32_w]);(with_reducible refine (spec_l01In.calls A7 0 1000000000 true _ A32.out).mono ?_);rintro e w' ⟨rfl,⟨nd,rfl⟩⟩;(try exact dd))|(go_at_call 63;(try simp only [i64_w,i32_w]);(with_reducible refine (spec_l01In.calls A9 0 1000000000 true _ A34.out).mono ?_);rintro e w' ⟨rfl,⟨nd,rfl⟩⟩;(try exact dd))|(go_at_call 63;(try simp only [i64_w,i32_w]);(with_reducible refine (spec_l01In.calls Aa 0 1000000000 Ak _ A36.out).mono ?_);rintro e w' ⟨rfl,⟨nd,rfl⟩⟩;(try exact dd)))
          repeat (go_quiet (first|(go_at_call 63;(try simp only [i64_w,i32_w]);(with_reducible refine (spec_l01In.calls A7 0 1000000000 true _ A32.out).mono ?_);rintro e w' ⟨rfl,⟨nd,rfl⟩⟩;(try exact dd))|(go_at_call 63;(try simp only [i64_w,i32_w]);(with_reducible refine (spec_l01In.calls A9 0 1000000000 true _ A34.out).mono ?_);rintro e w' ⟨rfl,⟨nd,rfl⟩⟩;(try exact dd))|(go_at_call 63;(try simp only [i64_w,i32_w]);(with_reducible refine (spec_l01In.calls Aa 0 1000000000 Ak _ A36.out).mono ?_);rintro e w' ⟨rfl,⟨nd,rfl⟩⟩;(try exact dd)));try go_wp2_with (first|(go_at_call 63;(try simp only [i64_w,i32_w]);(with_reducible refine (spec_l01In.calls A7 0 1000000000 true _ A32.out).mono ?_);rintro e w' ⟨rfl,⟨nd,rfl⟩⟩;(try exact dd))|(go_at_call 63;(try simp only [i64_w,i32_w]);(with_reducible refine (spec_l01In.calls A9 0 1000000000 true _ A34.out).mono ?_);rintro e w' ⟨rfl,⟨nd,rfl⟩⟩;(try exact dd))|(go_at_call 63;(try simp only [i64_w,i32_w]);(with_reducible refine (spec_l01In.calls Aa 0 1000000000 Ak _ A36.out).mono ?_);rintro e w' ⟨rfl,⟨nd,rfl⟩⟩;(try exact dd))))
          go_meet
          case rel=>exact ⟨_,(!Ak),(by first|rfl|(simp;done)|(simp [*];done)),H',⟨by have:=HJ1.out;first|omega|exact Nat.le_refl _⟩,⟨dr A1⟩,⟨by exact tb HB⟩⟩
         ·replace c35:=Bool.eq_false_iff.mpr c35
          subst c35
          have H1:(spec_MachineOk.j1 kj1 true A8 A3 Ab A5 A2 Ac true A7 A9 Aa A0)=some r:=by rw [if_neg (show ¬ (false=true) by decide)] at H;exact H
          clear H;have H:=H1;clear H1
          have H':=Aside0.mk H
          clear H;have hcz38__:=c11_ A1;have hfz38__:=f_ A1
          go_wp2_with (first|(go_at_call 63;(try simp only [i64_w,i32_w]);(with_reducible refine (spec_l01In.calls A7 0 1000000000 true _ A32.out).mono ?_);rintro e w' ⟨rfl,⟨nd,rfl⟩⟩;(try exact dd))|(go_at_call 63;(try simp only [i64_w,i32_w]);(with_reducible refine (spec_l01In.calls A9 0 1000000000 false _ A34.out).mono ?_);rintro e w' ⟨rfl,⟨nd,rfl⟩⟩;(try exact dd)))
          repeat (go_quiet (first|(go_at_call 63;(try simp only [i64_w,i32_w]);(with_reducible refine (spec_l01In.calls A7 0 1000000000 true _ A32.out).mono ?_);rintro e w' ⟨rfl,⟨nd,rfl⟩⟩;(try exact dd))|(go_at_call 63;(try simp only [i64_w,i32_w]);(with_reducible refine (spec_l01In.calls A9 0 1000000000 false _ A34.out).mono ?_);rintro e w' ⟨rfl,⟨nd,rfl⟩⟩;(try exact dd)));try go_wp2_with (first|(go_at_call 63;(try simp only [i64_w,i32_w]);(with_reducible refine (spec_l01In.calls A7 0 1000000000 true _ A32.out).mono ?_);rintro e w' ⟨rfl,⟨nd,rfl⟩⟩;(try exact dd))|(go_at_call 63;(try simp only [i64_w,i32_w]);(with_reducible refine (spec_l01In.calls A9 0 1000000000 false _ A34.out).mono ?_);rintro e w' ⟨rfl,⟨nd,rfl⟩⟩;(try exact dd))))
          go_meet
          case rel=>exact ⟨_,(true),(by first|rfl|(simp;done)|(simp [*];done)),H',⟨by have:=HJ1.out;first|omega|exact Nat.le_refl _⟩,⟨dr A1⟩,⟨by exact tb HB⟩⟩
        ·replace c33:=Bool.eq_false_iff.mpr c33
         subst c33
         have H1:(spec_MachineOk.j1 kj1 true A8 A3 Ab A5 A2 Ac true A7 A9 Aa A0)=some r:=by rw [if_neg (show ¬ (false=true) by decide)] at H;exact H
         clear H;have H:=H1;clear H1
         have H':=Aside0.mk H
         clear H;have hcz39__:=c11_ A1;have hfz39__:=f_ A1
         go_wp2_with (first|(go_at_call 63;(try simp only [i64_w,i32_w]);(with_reducible refine (spec_l01In.calls A7 0 1000000000 false _ A32.out).mono ?_);rintro e w' ⟨rfl,⟨nd,rfl⟩⟩;(try exact dd)))
         repeat (go_quiet (first|(go_at_call 63;(try simp only [i64_w,i32_w]);(with_reducible refine (spec_l01In.calls A7 0 1000000000 false _ A32.out).mono ?_);rintro e w' ⟨rfl,⟨nd,rfl⟩⟩;(try exact dd)));try go_wp2_with (first|(go_at_call 63;(try simp only [i64_w,i32_w]);(with_reducible refine (spec_l01In.calls A7 0 1000000000 false _ A32.out).mono ?_);rintro e w' ⟨rfl,⟨nd,rfl⟩⟩;(try exact dd))))
         go_meet
         case rel=>exact ⟨_,(true),(by first|rfl|(simp;done)|(simp [*];done)),H',⟨by have:=HJ1.out;first|omega|exact Nat.le_refl _⟩,⟨dr A1⟩,⟨by exact tb HB⟩⟩
     ·replace c27:=Bool.eq_false_iff.mpr c27
      subst c27
      have H1:((spec_l01In.f A7 0 1000000000).bind fun B0=>(if B0=true then ((spec_l01In.f A9 0 1000000000).bind fun Ar=>(if Ar=true then ((spec_l01In.f Aa 0 1000000000).bind fun Al=>(spec_MachineOk.j1 kj1 (!Al) A8 A3 Ab A5 A2 Ac false A7 A9 Aa A0)) else (spec_MachineOk.j1 kj1 true A8 A3 Ab A5 A2 Ac false A7 A9 Aa A0))) else (spec_MachineOk.j1 kj1 true A8 A3 Ab A5 A2 Ac false A7 A9 Aa A0)))=some r:=by rw [if_neg (show ¬ (false=true) by decide)] at H;exact H
      clear H;have H:=H1;clear H1
      replace H:=Option.bind_eq_some_iff.mp H
      obtain ⟨B0,A400,H⟩:=H
      replace H:(if B0=true then ((spec_l01In.f A9 0 1000000000).bind fun Ar=>(if Ar=true then ((spec_l01In.f Aa 0 1000000000).bind fun Al=>(spec_MachineOk.j1 kj1 (!Al) A8 A3 Ab A5 A2 Ac false A7 A9 Aa A0)) else (spec_MachineOk.j1 kj1 true A8 A3 Ab A5 A2 Ac false A7 A9 Aa A0))) else (spec_MachineOk.j1 kj1 true A8 A3 Ab A5 A2 Ac false A7 A9 Aa A0))=some r:=H
      have A40:=Aside0.mk A400;clear A400
      by_cases c41:B0=true
      ·subst c41
       have H1:((spec_l01In.f A9 0 1000000000).bind fun Ar=>(if Ar=true then ((spec_l01In.f Aa 0 1000000000).bind fun Al=>(spec_MachineOk.j1 kj1 (!Al) A8 A3 Ab A5 A2 Ac false A7 A9 Aa A0)) else (spec_MachineOk.j1 kj1 true A8 A3 Ab A5 A2 Ac false A7 A9 Aa A0)))=some r:=by rw [if_pos rfl] at H;exact H
       clear H;have H:=H1;clear H1
       replace H:=Option.bind_eq_some_iff.mp H
       obtain ⟨Ar,A420,H⟩:=H
       replace H:(if Ar=true then ((spec_l01In.f Aa 0 1000000000).bind fun Al=>(spec_MachineOk.j1 kj1 (!Al) A8 A3 Ab A5 A2 Ac false A7 A9 Aa A0)) else (spec_MachineOk.j1 kj1 true A8 A3 Ab A5 A2 Ac false A7 A9 Aa A0))=some r:=H
       have A42:=Aside0.mk A420;clear A420
       by_cases c43:Ar=true
       ·subst c43
        have H1:((spec_l01In.f Aa 0 1000000000).bind fun Al=>(spec_MachineOk.j1 kj1 (!Al) A8 A3 Ab A5 A2 Ac false A7 A9 Aa A0))=some r:=by rw [if_pos rfl] at H;exact H
        clear H;have H:=H1;clear H1
        replace H:=Option.bind_eq_some_iff.mp H
        obtain ⟨Al,A440,H⟩:=H
        replace H:(spec_MachineOk.j1 kj1 (!Al) A8 A3 Ab A5 A2 Ac false A7 A9 Aa A0)=some r:=H
        have A44:=Aside0.mk A440;clear A440
        have H':=Aside0.mk H
        clear H;have hcz45__:=c11_ A1;have hfz45__:=f_ A1
        go_wp2_with (first|(go_at_call 63;(try simp only [i64_w,i32_w]);(with_reducible refine (spec_l01In.calls A7 0 1000000000 true _ A40.out).mono ?_);rintro e w' ⟨rfl,⟨nd,rfl⟩⟩;(try exact dd))|(go_at_call 63;(try simp only [i64_w,i32_w]);(with_reducible refine (spec_l01In.calls A9 0 1000000000 true _ A42.out).mono ?_);rintro e w' ⟨rfl,⟨nd,rfl⟩⟩;(try exact dd))|(go_at_call 63;(try simp only [i64_w,i32_w]);(with_reducible refine (spec_l01In.calls Aa 0 1000000000 Al _ A44.out).mono ?_);rintro e w' ⟨rfl,⟨nd,rfl⟩⟩;(try exact dd)))
        repeat (go_quiet (first|(go_at_call 63;(try simp only [i64_w,i32_w]);(with_reducible refine (spec_l01In.calls A7 0 1000000000 true _ A40.out).mono ?_);rintro e w' ⟨rfl,⟨nd,rfl⟩⟩;(try exact dd))|(go_at_call 63;(try simp only [i64_w,i32_w]);(with_reducible refine (spec_l01In.calls A9 0 1000000000 true _ A42.out).mono ?_);rintro e w' ⟨rfl,⟨nd,rfl⟩⟩;(try exact dd))|(go_at_call 63;(try simp only [i64_w,i32_w]);(with_reducible refine (spec_l01In.calls Aa 0 1000000000 Al _ A44.out).mono ?_);rintro e w' ⟨rfl,⟨nd,rfl⟩⟩;(try exact dd)));try go_wp2_with (first|(go_at_call 63;(try simp only [i64_w,i32_w]);(with_reducible refine (spec_l01In.calls A7 0 1000000000 true _ A40.out).mono ?_);rintro e w' ⟨rfl,⟨nd,rfl⟩⟩;(try exact dd))|(go_at_call 63;(try simp only [i64_w,i32_w]);(with_reducible refine (spec_l01In.calls A9 0 1000000000 true _ A42.out).mono ?_);rintro e w' ⟨rfl,⟨nd,rfl⟩⟩;(try exact dd))|(go_at_call 63;(try simp only [i64_w,i32_w]);(with_reducible refine (spec_l01In.calls Aa 0 1000000000 Al _ A44.out).mono ?_);rintro e w' ⟨rfl,⟨nd,rfl⟩⟩;(try exact dd))))
        go_meet
        case rel=>exact ⟨_,(!Al),(by first|rfl|(simp;done)|(simp [*];done)),H',⟨by have:=HJ1.out;first|omega|exact Nat.le_refl _⟩,⟨dr A1⟩,⟨by exact tb HB⟩⟩
       ·replace c43:=Bool.eq_false_iff.mpr c43
        subst c43
        have H1:(spec_MachineOk.j1 kj1 true A8 A3 Ab A5 A2 Ac false A7 A9 Aa A0)=some r:=by rw [if_neg (show ¬ (false=true) by decide)] at H;exact H
        clear H;have H:=H1;clear H1
        have H':=Aside0.mk H
        clear H;have hcz46__:=c11_ A1;have hfz46__:=f_ A1
        go_wp2_with (first|(go_at_call 63;(try simp only [i64_w,i32_w]);(with_reducible refine (spec_l01In.calls A7 0 1000000000 true _ A40.out).mono ?_);rintro e w' ⟨rfl,⟨nd,rfl⟩⟩;(try exact dd))|(go_at_call 63;(try simp only [i64_w,i32_w]);(with_reducible refine (spec_l01In.calls A9 0 1000000000 false _ A42.out).mono ?_);rintro e w' ⟨rfl,⟨nd,rfl⟩⟩;(try exact dd)))
        repeat (go_quiet (first|(go_at_call 63;(try simp only [i64_w,i32_w]);(with_reducible refine (spec_l01In.calls A7 0 1000000000 true _ A40.out).mono ?_);rintro e w' ⟨rfl,⟨nd,rfl⟩⟩;(try exact dd))|(go_at_call 63;(try simp only [i64_w,i32_w]);(with_reducible refine (spec_l01In.calls A9 0 1000000000 false _ A42.out).mono ?_);rintro e w' ⟨rfl,⟨nd,rfl⟩⟩;(try exact dd)));try go_wp2_with (first|(go_at_call 63;(try simp only [i64_w,i32_w]);(with_reducible refine (spec_l01In.calls A7 0 1000000000 true _ A40.out).mono ?_);rintro e w' ⟨rfl,⟨nd,rfl⟩⟩;(try exact dd))|(go_at_call 63;(try simp only [i64_w,i32_w]);(with_reducible refine (spec_l01In.calls A9 0 1000000000 false _ A42.out).mono ?_);rintro e w' ⟨rfl,⟨nd,rfl⟩⟩;(try exact dd))))
        go_meet
        case rel=>exact ⟨_,(true),(by first|rfl|(simp;done)|(simp [*];done)),H',⟨by have:=HJ1.out;first|omega|exact Nat.le_refl _⟩,⟨dr A1⟩,⟨by exact tb HB⟩⟩
      ·replace c41:=Bool.eq_false_iff.mpr c41
       subst c41
       have H1:(spec_MachineOk.j1 kj1 true A8 A3 Ab A5 A2 Ac false A7 A9 Aa A0)=some r:=by rw [if_neg (show ¬ (false=true) by decide)] at H;exact H
       clear H;have H:=H1;clear H1
       have H':=Aside0.mk H
       clear H;have hcz47__:=c11_ A1;have hfz47__:=f_ A1
       go_wp2_with (first|(go_at_call 63;(try simp only [i64_w,i32_w]);(with_reducible refine (spec_l01In.calls A7 0 1000000000 false _ A40.out).mono ?_);rintro e w' ⟨rfl,⟨nd,rfl⟩⟩;(try exact dd)))
       repeat (go_quiet (first|(go_at_call 63;(try simp only [i64_w,i32_w]);(with_reducible refine (spec_l01In.calls A7 0 1000000000 false _ A40.out).mono ?_);rintro e w' ⟨rfl,⟨nd,rfl⟩⟩;(try exact dd)));try go_wp2_with (first|(go_at_call 63;(try simp only [i64_w,i32_w]);(with_reducible refine (spec_l01In.calls A7 0 1000000000 false _ A40.out).mono ?_);rintro e w' ⟨rfl,⟨nd,rfl⟩⟩;(try exact dd))))
       go_meet
       case rel=>exact ⟨_,(true),(by first|rfl|(simp;done)|(simp [*];done)),H',⟨by have:=HJ1.out;first|omega|exact Nat.le_refl _⟩,⟨dr A1⟩,⟨by exact tb HB⟩⟩
    case rest =>
     clear HC26
     (try clear c1);(try clear c2);(try clear p2);(try clear c3);(try clear c4);(try clear c5);(try clear c7);(try clear c8);(try clear c8b0);(try clear c12);(try clear c12b0);(try clear c25);(try clear c27);(try clear c28);(try clear c28b0);(try clear c30);(try clear c30b0);(try clear c30b1);(try clear c33);(try clear c35);(try clear c41);(try clear c43);(try clear hcz11__);(try clear hcz13__);(try clear hcz15__);(try clear hcz17__);(try clear hcz19__);(try clear hcz20__);(try clear hcz22__);(try clear hcz23__);(try clear hcz29__);(try clear hcz31__);(try clear hcz37__);(try clear hcz38__);(try clear hcz39__);(try clear hcz45__);(try clear hcz46__);(try clear hcz47__);(try clear hcz9__);(try clear hfz11__);(try clear hfz13__);(try clear hfz15__);(try clear hfz17__);(try clear hfz19__);(try clear hfz20__);(try clear hfz22__);(try clear hfz23__);(try clear hfz29__);(try clear hfz31__);(try clear hfz37__);(try clear hfz38__);(try clear hfz39__);(try clear hfz45__);(try clear hfz46__);(try clear hfz47__);(try clear hfz9__);(try clear p2)
     obtain ⟨kq,Ay,rfl,HA,HJ25,A1,HB⟩:=hcut
     cases kq with
          | zero=>exact absurd HA.out (by simp [spec_MachineOk.j1])
          | succ kj25 =>
      have H:=HA.out;clear HA
      simp only [spec_MachineOk.j1] at H
      by_cases c48:Ay=true
      ·subst c48
       have H1:(some false)=some r:=by rw [if_pos rfl] at H;exact H
       clear H;have H:=H1;clear H1
       obtain rfl:=Option.some.inj H
       go_wp2
       repeat (go_quiet (fail);try go_wp2)
       go_ret
       exact ⟨er,tb HB⟩
      ·replace c48:=Bool.eq_false_iff.mpr c48
       subst c48
       have H1:(spec_MachineOk.l0 kj25 0 A8 A3 Ab A5 A2 Ac Ad A7 A9 Aa A0)=some r:=by rw [if_neg (show ¬ (false=true) by decide)] at H;exact H
       clear H;have H:=H1;clear H1
       have H':=Aside0.mk H
       clear H
       go_wp2
       repeat (go_quiet (fail);try go_wp2)
       go_loopg [3] kj25 (fun kq v3 w'=>∃ (Ai:Int),v3 = .int .i64 Ai∧Aside0 (spec_MachineOk.l0 kq Ai A8 A3 Ab A5 A2 Ac Ad A7 A9 Aa A0=some r)∧Aside0 (kq≤kj25)∧Aside0 (w'.heap[As]? = some (.cells #[(.slice Au A8.length Av),.int .i64 A3,.string Ab,.int .i64 A5,(.slice Aw A2.length Ax),.int .i64 Ac,.bool Ad,.int .i64 A7,.int .i64 A9,.int .i64 Aa,(.slice Ao A0.length An)] 36 (0,0)))∧Aside0 (Below w.heap.size w w'))
       case atStart=>exact ⟨(0),(by first|rfl|(simp;done)|(simp [*];done)),H',⟨Nat.le_refl _⟩,⟨dr A1⟩,⟨by exact tb HB⟩⟩
       case round =>
        clear H'
        (try clear c1);(try clear c2);(try clear p2);(try clear c3);(try clear c4);(try clear c5);(try clear c7);(try clear c8);(try clear c8b0);(try clear c12);(try clear c12b0);(try clear c25);(try clear c27);(try clear c28);(try clear c28b0);(try clear c30);(try clear c30b0);(try clear c30b1);(try clear c33);(try clear c35);(try clear c41);(try clear c43);(try clear c48);(try clear hcz11__);(try clear hcz13__);(try clear hcz15__);(try clear hcz17__);(try clear hcz19__);(try clear hcz20__);(try clear hcz22__);(try clear hcz23__);(try clear hcz29__);(try clear hcz31__);(try clear hcz37__);(try clear hcz38__);(try clear hcz39__);(try clear hcz45__);(try clear hcz46__);(try clear hcz47__);(try clear hcz9__);(try clear hfz11__);(try clear hfz13__);(try clear hfz15__);(try clear hfz17__);(try clear hfz19__);(try clear hfz20__);(try clear hfz22__);(try clear hfz23__);(try clear hfz29__);(try clear hfz31__);(try clear hfz37__);(try clear hfz38__);(try clear hfz39__);(try clear hfz45__);(try clear hfz46__);(try clear hfz47__);(try clear hfz9__);(try clear p2)
        obtain ⟨Ai,rfl,HA,HK3,A1,HB⟩:=hrel
        cases gk with
                | zero=>exact absurd HA.out (by simp [spec_MachineOk.l0])
                | succ k3 =>
         have H:=HA.out;clear HA
         simp only [spec_MachineOk.l0] at H
         by_cases c49:Ai < (A2.length:Int)
         ·rw [if_pos c49] at H
          have c49b0:decide (Ai < (A2.length:Int))=true:=decide_eq_true c49;clear c49
          by_cases c50:0≤Ai
          ·rw [if_pos c50] at H
           have c50b0:decide (0≤Ai)=true:=decide_eq_true c50;clear c50
           replace H:=Option.bind_eq_some_iff.mp H
           obtain ⟨B3,A510,H⟩:=H
           replace H:(if B3=true then (spec_MachineOk.l0 k3 (wrap64 (Ai + 1)) A8 A3 Ab A5 A2 Ac Ad A7 A9 Aa A0) else (some false))=some r:=H
           have A51:=Aside0.mk A510;clear A510
           by_cases c52:B3=true
           ·subst c52
            have H1:(spec_MachineOk.l0 k3 (wrap64 (Ai + 1)) A8 A3 Ab A5 A2 Ac Ad A7 A9 Aa A0)=some r:=by rw [if_pos rfl] at H;exact H
            clear H;have H:=H1;clear H1
            have H':=Aside0.mk H
            clear H;have hcz53__:=c11_ A1;have hfz53__:=f_ A1
            have p111:0≤(Ai:Int):=od
            have q111:Ai < (A2.length:Int):=od
            obtain ⟨ad111,e111,hx111_0⟩:=Kd.at_int B5.out Ai p111 q111
            cases e111
            replace hx111_0:=(HB.out.cell (World.block_lt_of_cell? w _ hx111_0)).trans hx111_0
            replace p111:=eq_true p111
            replace q111:=eq_true q111
            go_wp2_with (first|(go_at_call 63;(try simp only [i64_w,i32_w]);(with_reducible refine (spec_l01In.calls (rd A2 Ai) 0 1 true _ A51.out).mono ?_);rintro e w' ⟨rfl,⟨nd,rfl⟩⟩;(try exact dd)))
            repeat (go_quiet (first|(go_at_call 63;(try simp only [i64_w,i32_w]);(with_reducible refine (spec_l01In.calls (rd A2 Ai) 0 1 true _ A51.out).mono ?_);rintro e w' ⟨rfl,⟨nd,rfl⟩⟩;(try exact dd)));try go_wp2_with (first|(go_at_call 63;(try simp only [i64_w,i32_w]);(with_reducible refine (spec_l01In.calls (rd A2 Ai) 0 1 true _ A51.out).mono ?_);rintro e w' ⟨rfl,⟨nd,rfl⟩⟩;(try exact dd))))
            go_roundg k3
            case measure=>have:=HJ1.out;have:=HJ25.out;have:=HK3.out;omega
            case rel=>exact ⟨(wrap64 (Ai + 1)),(by first|rfl|(simp;done)|(simp [*];done)),H',⟨by have:=HJ1.out;have:=HJ25.out;have:=HK3.out;omega⟩,⟨dr A1⟩,⟨by exact tb HB⟩⟩
           ·replace c52:=Bool.eq_false_iff.mpr c52
            subst c52
            have H1:(some false)=some r:=by rw [if_neg (show ¬ (false=true) by decide)] at H;exact H
            clear H;have H:=H1;clear H1
            obtain rfl:=Option.some.inj H
            have hcz54__:=c11_ A1;have hfz54__:=f_ A1
            have p111:0≤(Ai:Int):=od
            have q111:Ai < (A2.length:Int):=od
            obtain ⟨ad111,e111,hx111_0⟩:=Kd.at_int B5.out Ai p111 q111
            cases e111
            replace hx111_0:=(HB.out.cell (World.block_lt_of_cell? w _ hx111_0)).trans hx111_0
            replace p111:=eq_true p111
            replace q111:=eq_true q111
            go_wp2_with (first|(go_at_call 63;(try simp only [i64_w,i32_w]);(with_reducible refine (spec_l01In.calls (rd A2 Ai) 0 1 false _ A51.out).mono ?_);rintro e w' ⟨rfl,⟨nd,rfl⟩⟩;(try exact dd)))
            repeat (go_quiet (first|(go_at_call 63;(try simp only [i64_w,i32_w]);(with_reducible refine (spec_l01In.calls (rd A2 Ai) 0 1 false _ A51.out).mono ?_);rintro e w' ⟨rfl,⟨nd,rfl⟩⟩;(try exact dd)));try go_wp2_with (first|(go_at_call 63;(try simp only [i64_w,i32_w]);(with_reducible refine (spec_l01In.calls (rd A2 Ai) 0 1 false _ A51.out).mono ?_);rintro e w' ⟨rfl,⟨nd,rfl⟩⟩;(try exact dd))))
            go_ret
            exact ⟨er,tb HB⟩
          ·rw [if_neg c50] at H
           exact absurd H (by simp)
         ·rw [if_neg c49] at H
          have c49b0:decide (Ai < (A2.length:Int))=false:=decide_eq_false c49;clear c49
          have H':=Aside0.mk H
          clear H;have hcz55__:=c11_ A1;have hfz55__:=f_ A1
          go_wp2
          repeat (go_quiet (fail);try go_wp2)
          go_loopg [4] k3 (fun kq v4 w'=>∃ (Ae:Int),v4 = .int .i64 Ae∧Aside0 (spec_MachineOk.l1 kq Ae A8 A3 Ab A5 A2 Ac Ad A7 A9 Aa A0=some r)∧Aside0 (kq≤k3)∧Aside0 (w'.heap[As]? = some (.cells #[(.slice Au A8.length Av),.int .i64 A3,.string Ab,.int .i64 A5,(.slice Aw A2.length Ax),.int .i64 Ac,.bool Ad,.int .i64 A7,.int .i64 A9,.int .i64 Aa,(.slice Ao A0.length An)] 36 (0,0)))∧Aside0 (Below w.heap.size w w'))
          case atStart=>exact ⟨(0),(by first|rfl|(simp;done)|(simp [*];done)),H',⟨Nat.le_refl _⟩,⟨dr A1⟩,⟨by exact tb HB⟩⟩
          case round =>
           clear H'
           (try clear c1);(try clear p1);(try clear q1);(try clear hx1);(try clear c2);(try clear p2);(try clear c3);(try clear c4);(try clear c5);(try clear p6);(try clear c7);(try clear c8);(try clear c8b0);(try clear p11);(try clear q11);(try clear hx11);(try clear c12);(try clear c12b0);(try clear c25);(try clear c27);(try clear c28);(try clear c28b0);(try clear c30);(try clear c30b0);(try clear c30b1);(try clear c33);(try clear c35);(try clear c41);(try clear c43);(try clear c48);(try clear c49);(try clear c49b0);(try clear c50);(try clear c50b0);(try clear c52);(try clear hcz11__);(try clear hcz13__);(try clear hcz15__);(try clear hcz17__);(try clear hcz19__);(try clear hcz20__);(try clear hcz22__);(try clear hcz23__);(try clear hcz29__);(try clear hcz31__);(try clear hcz37__);(try clear hcz38__);(try clear hcz39__);(try clear hcz45__);(try clear hcz46__);(try clear hcz47__);(try clear hcz53__);(try clear hcz54__);(try clear hcz55__);(try clear hcz9__);(try clear hfz11__);(try clear hfz13__);(try clear hfz15__);(try clear hfz17__);(try clear hfz19__);(try clear hfz20__);(try clear hfz22__);(try clear hfz23__);(try clear hfz29__);(try clear hfz31__);(try clear hfz37__);(try clear hfz38__);(try clear hfz39__);(try clear hfz45__);(try clear hfz46__);(try clear hfz47__);(try clear hfz53__);(try clear hfz54__);(try clear hfz55__);(try clear hfz9__);(try clear hx111_0);(try clear p111);(try clear p2);(try clear q111)
           obtain ⟨Ae,rfl,HA,HK4,A1,HB⟩:=hrel
           cases gk with
                      | zero=>exact absurd HA.out (by simp [spec_MachineOk.l1])
                      | succ k4 =>
            have H:=HA.out;clear HA
            simp only [spec_MachineOk.l1] at H
            by_cases c56:Ae < (A0.length:Int)
            ·rw [if_pos c56] at H
             have c56b0:decide (Ae < (A0.length:Int))=true:=decide_eq_true c56;clear c56
             by_cases c57:0≤Ae
             ·rw [if_pos c57] at H
              have c57b0:decide (0≤Ae)=true:=decide_eq_true c57;clear c57
              replace H:=Option.bind_eq_some_iff.mp H
              obtain ⟨B4,A580,H⟩:=H
              replace H:(if B4=true then (spec_MachineOk.l2 k4 Ae 0 A8 A3 Ab A5 A2 Ac Ad A7 A9 Aa A0) else (some false))=some r:=H
              have A58:=Aside0.mk A580;clear A580
              by_cases c59:B4=true
              ·subst c59
               have H1:(spec_MachineOk.l2 k4 Ae 0 A8 A3 Ab A5 A2 Ac Ad A7 A9 Aa A0)=some r:=by rw [if_pos rfl] at H;exact H
               clear H;have H:=H1;clear H1
               have H':=Aside0.mk H
               clear H;have hcz60__:=c11_ A1;have hfz60__:=f_ A1
               have p113:0≤(Ae:Int):=od
               have q113:Ae < (A0.length:Int):=od
               obtain ⟨ad113,e113,hx113_0,hx113_1⟩:=at_T86 Ap.out Ae p113 q113
               cases e113
               replace hx113_0:=(HB.out.cell (World.block_lt_of_cell? w _ hx113_0)).trans hx113_0
               replace hx113_1:=(HB.out.cell (World.block_lt_of_cell? w _ hx113_1)).trans hx113_1
               replace p113:=eq_true p113
               replace q113:=eq_true q113
               go_wp2_with (first|(go_at_call 63;(try simp only [i64_w,i32_w]);(with_reducible refine (spec_l01In.calls ((rd_T86 A0 Ae).f1) 0 1 true _ A58.out).mono ?_);rintro e w' ⟨rfl,⟨nd,rfl⟩⟩;(try exact dd)))
               repeat (go_quiet (first|(go_at_call 63;(try simp only [i64_w,i32_w]);(with_reducible refine (spec_l01In.calls ((rd_T86 A0 Ae).f1) 0 1 true _ A58.out).mono ?_);rintro e w' ⟨rfl,⟨nd,rfl⟩⟩;(try exact dd)));try go_wp2_with (first|(go_at_call 63;(try simp only [i64_w,i32_w]);(with_reducible refine (spec_l01In.calls ((rd_T86 A0 Ae).f1) 0 1 true _ A58.out).mono ?_);rintro e w' ⟨rfl,⟨nd,rfl⟩⟩;(try exact dd))))
               go_loopg [5] k4 (fun kq v5 w'=>∃ (Aj:Int),v5 = .int .i64 Aj∧Aside0 (spec_MachineOk.l2 kq Ae Aj A8 A3 Ab A5 A2 Ac Ad A7 A9 Aa A0=some r)∧Aside0 (kq≤k4)∧Aside0 (w'.heap[As]? = some (.cells #[(.slice Au A8.length Av),.int .i64 A3,.string Ab,.int .i64 A5,(.slice Aw A2.length Ax),.int .i64 Ac,.bool Ad,.int .i64 A7,.int .i64 A9,.int .i64 Aa,(.slice (some ad113) A0.length An)] 36 (0,0)))∧Aside0 (Below w.heap.size w w'))
               case atStart=>exact ⟨(0),(by first|rfl|(simp;done)|(simp [*];done)),H',⟨Nat.le_refl _⟩,⟨dr A1⟩,⟨by exact tb HB⟩⟩
               case round =>
                clear H'
                (try clear c1);(try clear p1);(try clear q1);(try clear hx1);(try clear c2);(try clear p2);(try clear c3);(try clear c4);(try clear c5);(try clear p6);(try clear c7);(try clear c8);(try clear c8b0);(try clear p11);(try clear q11);(try clear hx11);(try clear c12);(try clear c12b0);(try clear c25);(try clear c27);(try clear c28);(try clear c28b0);(try clear c30);(try clear c30b0);(try clear c30b1);(try clear c33);(try clear c35);(try clear c41);(try clear c43);(try clear c48);(try clear c49);(try clear c49b0);(try clear c50);(try clear c50b0);(try clear c52);(try clear c56);(try clear c56b0);(try clear c57);(try clear c57b0);(try clear c59);(try clear hcz11__);(try clear hcz13__);(try clear hcz15__);(try clear hcz17__);(try clear hcz19__);(try clear hcz20__);(try clear hcz22__);(try clear hcz23__);(try clear hcz29__);(try clear hcz31__);(try clear hcz37__);(try clear hcz38__);(try clear hcz39__);(try clear hcz45__);(try clear hcz46__);(try clear hcz47__);(try clear hcz53__);(try clear hcz54__);(try clear hcz55__);(try clear hcz60__);(try clear hcz9__);(try clear hfz11__);(try clear hfz13__);(try clear hfz15__);(try clear hfz17__);(try clear hfz19__);(try clear hfz20__);(try clear hfz22__);(try clear hfz23__);(try clear hfz29__);(try clear hfz31__);(try clear hfz37__);(try clear hfz38__);(try clear hfz39__);(try clear hfz45__);(try clear hfz46__);(try clear hfz47__);(try clear hfz53__);(try clear hfz54__);(try clear hfz55__);(try clear hfz60__);(try clear hfz9__);(try clear hx111_0);(try clear hx113_0);(try clear hx113_1);(try clear p1);(try clear p11);(try clear p111);(try clear p113);(try clear p2);(try clear p6);(try clear q1);(try clear q11);(try clear q111);(try clear q113)
                obtain ⟨Aj,rfl,HA,HK5,A1,HB⟩:=hrel
                cases gk with
                                | zero=>exact absurd HA.out (by simp [spec_MachineOk.l2])
                                | succ k5 =>
                 have H:=HA.out;clear HA
                 simp only [spec_MachineOk.l2] at H
                 by_cases c61:Aj < Ae
                 ·rw [if_pos c61] at H
                  have c61b0:decide (Aj < Ae)=true:=decide_eq_true c61;clear c61
                  by_cases c62:0≤Aj
                  ·rw [if_pos c62] at H
                   have c62b0:decide (0≤Aj)=true:=decide_eq_true c62;clear c62
                   by_cases c63:Aj < (A0.length:Int)
                   ·rw [if_pos c63] at H
                    have c63b0:decide (Aj < (A0.length:Int))=true:=decide_eq_true c63;clear c63
                    by_cases c64:0≤Ae
                    ·rw [if_pos c64] at H
                     have c64b0:decide (0≤Ae)=true:=decide_eq_true c64;clear c64
                     by_cases c65:Ae < (A0.length:Int)
                     ·rw [if_pos c65] at H
                      have c65b0:decide (Ae < (A0.length:Int))=true:=decide_eq_true c65;clear c65
                      by_cases c66:((rd_T86 A0 Aj).f0).toList=((rd_T86 A0 Ae).f0).toList
                      ·rw [if_pos c66] at H
                       have c66b0:(((rd_T86 A0 Aj).f0).toList == ((rd_T86 A0 Ae).f0).toList)=true:=beq_iff_eq.mpr c66;have c66b1:(((rd_T86 A0 Aj).f0).toList != ((rd_T86 A0 Ae).f0).toList)=false:=bne_eq_false_iff_eq.mpr c66;clear c66
                       obtain rfl:=Option.some.inj H
                       have hcz67__:=c11_ A1;have hfz67__:=f_ A1
                       have p115:0≤(Aj:Int):=od
                       have q115:Aj < (A0.length:Int):=od
                       obtain ⟨ad115,e115,hx115_0,hx115_1⟩:=at_T86 Ap.out Aj p115 q115
                       obtain rfl:ad113=ad115:=(by injection e115)
                       replace hx115_0:=(HB.out.cell (World.block_lt_of_cell? w _ hx115_0)).trans hx115_0
                       replace hx115_1:=(HB.out.cell (World.block_lt_of_cell? w _ hx115_1)).trans hx115_1
                       replace p115:=eq_true p115
                       replace q115:=eq_true q115
                       have p116:0≤(Ae:Int):=od
                       have q116:Ae < (A0.length:Int):=od
                       obtain ⟨ad116,e116,hx116_0,hx116_1⟩:=at_T86 Ap.out Ae p116 q116
                       obtain rfl:ad113=ad116:=(by injection e116)
                       replace hx116_0:=(HB.out.cell (World.block_lt_of_cell? w _ hx116_0)).trans hx116_0
                       replace hx116_1:=(HB.out.cell (World.block_lt_of_cell? w _ hx116_1)).trans hx116_1
                       replace p116:=eq_true p116
                       replace q116:=eq_true q116
                       go_wp2
                       repeat (go_quiet (fail);try go_wp2)
                       go_ret
                       exact ⟨er,tb HB⟩
                      ·rw [if_neg c66] at H
                       have c66b0:(((rd_T86 A0 Aj).f0).toList == ((rd_T86 A0 Ae).f0).toList)=false:=beq_eq_false_iff_ne.mpr c66;have c66b1:(((rd_T86 A0 Aj).f0).toList != ((rd_T86 A0 Ae).f0).toList)=true:=bne_iff_ne.mpr c66
                       have H':=Aside0.mk H
                       clear H;have hcz68__:=c11_ A1;have hfz68__:=f_ A1
                       have p115:0≤(Aj:Int):=od
                       have q115:Aj < (A0.length:Int):=od
                       obtain ⟨ad115,e115,hx115_0,hx115_1⟩:=at_T86 Ap.out Aj p115 q115
                       obtain rfl:ad113=ad115:=(by injection e115)
                       replace hx115_0:=(HB.out.cell (World.block_lt_of_cell? w _ hx115_0)).trans hx115_0
                       replace hx115_1:=(HB.out.cell (World.block_lt_of_cell? w _ hx115_1)).trans hx115_1
                       replace p115:=eq_true p115
                       replace q115:=eq_true q115
                       have p116:0≤(Ae:Int):=od
                       have q116:Ae < (A0.length:Int):=od
                       obtain ⟨ad116,e116,hx116_0,hx116_1⟩:=at_T86 Ap.out Ae p116 q116
                       obtain rfl:ad113=ad116:=(by injection e116)
                       replace hx116_0:=(HB.out.cell (World.block_lt_of_cell? w _ hx116_0)).trans hx116_0
                       replace hx116_1:=(HB.out.cell (World.block_lt_of_cell? w _ hx116_1)).trans hx116_1
                       replace p116:=eq_true p116
                       replace q116:=eq_true q116
                       go_wp2
                       repeat (go_quiet (fail);try go_wp2)
                       go_roundg k5
                       case measure=>have:=HJ1.out;have:=HJ25.out;have:=HK3.out;have:=HK4.out;have:=HK5.out;omega
                       case rel=>exact ⟨(wrap64 (Aj + 1)),(by first|rfl|(simp;done)|(simp [*];done)),H',⟨by have:=HJ1.out;have:=HJ25.out;have:=HK3.out;have:=HK4.out;have:=HK5.out;omega⟩,⟨dr A1⟩,⟨by exact tb HB⟩⟩
                     ·rw [if_neg c65] at H
                      exact absurd H (by simp)
                    ·rw [if_neg c64] at H
                     exact absurd H (by simp)
                   ·rw [if_neg c63] at H
                    exact absurd H (by simp)
                  ·rw [if_neg c62] at H
                   exact absurd H (by simp)
                 ·rw [if_neg c61] at H
                  have c61b0:decide (Aj < Ae)=false:=decide_eq_false c61;clear c61
                  have H':=Aside0.mk H
                  clear H
                  go_wp2
                  repeat (go_quiet (fail);try go_wp2)
                  go_roundg k5
                  case measure=>have:=HJ1.out;have:=HJ25.out;have:=HK3.out;have:=HK4.out;have:=HK5.out;omega
                  case rel=>exact ⟨(wrap64 (Ae + 1)),(by first|rfl|(simp;done)|(simp [*];done)),H',⟨by have:=HJ1.out;have:=HJ25.out;have:=HK3.out;have:=HK4.out;have:=HK5.out;omega⟩,⟨dr A1⟩,⟨by exact tb HB⟩⟩
              ·replace c59:=Bool.eq_false_iff.mpr c59
               subst c59
               have H1:(some false)=some r:=by rw [if_neg (show ¬ (false=true) by decide)] at H;exact H
               clear H;have H:=H1;clear H1
               obtain rfl:=Option.some.inj H
               have hcz69__:=c11_ A1;have hfz69__:=f_ A1
               have p113:0≤(Ae:Int):=od
               have q113:Ae < (A0.length:Int):=od
               obtain ⟨ad113,e113,hx113_0,hx113_1⟩:=at_T86 Ap.out Ae p113 q113
               cases e113
               replace hx113_0:=(HB.out.cell (World.block_lt_of_cell? w _ hx113_0)).trans hx113_0
               replace hx113_1:=(HB.out.cell (World.block_lt_of_cell? w _ hx113_1)).trans hx113_1
               replace p113:=eq_true p113
               replace q113:=eq_true q113
               go_wp2_with (first|(go_at_call 63;(try simp only [i64_w,i32_w]);(with_reducible refine (spec_l01In.calls ((rd_T86 A0 Ae).f1) 0 1 false _ A58.out).mono ?_);rintro e w' ⟨rfl,⟨nd,rfl⟩⟩;(try exact dd)))
               repeat (go_quiet (first|(go_at_call 63;(try simp only [i64_w,i32_w]);(with_reducible refine (spec_l01In.calls ((rd_T86 A0 Ae).f1) 0 1 false _ A58.out).mono ?_);rintro e w' ⟨rfl,⟨nd,rfl⟩⟩;(try exact dd)));try go_wp2_with (first|(go_at_call 63;(try simp only [i64_w,i32_w]);(with_reducible refine (spec_l01In.calls ((rd_T86 A0 Ae).f1) 0 1 false _ A58.out).mono ?_);rintro e w' ⟨rfl,⟨nd,rfl⟩⟩;(try exact dd))))
               go_ret
               exact ⟨er,tb HB⟩
             ·rw [if_neg c57] at H
              exact absurd H (by simp)
            ·rw [if_neg c56] at H
             have c56b0:decide (Ae < (A0.length:Int))=false:=decide_eq_false c56;clear c56
             obtain rfl:=Option.some.inj H
             have hcz70__:=c11_ A1;have hfz70__:=f_ A1
             go_wp2
             repeat (go_quiet (fail);try go_wp2)
             go_ret
             exact ⟨er,tb HB⟩
def spec_l09Copy.f (Ac:List Bool) (A3:Int) (A4:ByteArray) (A5:Int) (A6:List Int) (A7:Int) (A8:Bool) (A9:Int) (Aa:Int) (Ab:Int) (A1:List (S86)):Option (List Bool × Int × ByteArray × Int × List Int × Int × Bool × Int × Int × Int × (List (S86))):=(some (([]:List Bool):List Bool)).bind fun y103=>(if y103.length + Ac.length < 140737488355328 then ((some (([]:List Int):List Int)).bind fun y109=>(if y109.length + A6.length < 17592186044416 then ((some (([]:List (S86)):List (S86))).bind fun y115=>(if y115.length + A1.length < 5864062014805 then (some ((y103 ++ Ac),A3,A4,A5,(y109 ++ A6),A7,A8,A9,Aa,Ab,(y115 ++ A1))) else (none))) else (none))) else (none))
set_option maxHeartbeats 80000000 in
set_option maxRecDepth 100000 in
theorem spec_l09Copy.calls (Av:Option Addr) (Aw:Nat) (Ac:List Bool) (A3:Int) (A4:ByteArray) (A5:Int) (Ao:Option Addr) (Ap:Nat) (A6:List Int) (A7:Int) (A8:Bool) (A9:Int) (Aa:Int) (Ab:Int) (Ag:Option Addr) (Ah:Nat) (A1:List (S86)) (r1:List Bool) (r2:Int) (r3:ByteArray) (r4:Int) (r5:List Int) (r6:Int) (r7:Bool) (r8:Int) (r9:Int) (r10:Int) (r11:List (S86)) (w:World) (hr0_0:Kd.C Kd.bool w Av Ac.length Ac) (hc0_0:Ac.length≤Aw) (hr0_4:Kd.C (Kd.int .i64) w Ao A6.length A6) (hc0_4:A6.length≤Ap) (hr0_10:Kd.C k86 w Ag A1.length A1) (hc0_10:A1.length≤Ah) (h:spec_l09Copy.f Ac A3 A4 A5 A6 A7 A8 A9 Aa Ab A1=some (r1,r2,r3,r4,r5,r6,r7,r8,r9,r10,r11)) :
  Calls Try.prog 81 #[.agg #[.slice Av Ac.length Aw,.int .i64 A3,.string A4,.int .i64 A5,.slice Ao A6.length Ap,.int .i64 A7,.bool A8,.int .i64 A9,.int .i64 Aa,.int .i64 Ab,.slice Ag A1.length Ah]] w fun e w'=>∃ v0_ v4_ v10_:Value,e = .returned (.agg #[v0_,.int .i64 r2,.string r3,.int .i64 r4,v4_,.int .i64 r6,.bool r7,.int .i64 r8,.int .i64 r9,.int .i64 r10,v10_])∧Kd.R Kd.bool 4 w' w.heap.size (fun _=>True) v0_ r1∧Kd.R (Kd.int .i64) 3 w' w.heap.size (fun _=>True) v4_ r5∧Kd.R k86 86 w' w.heap.size (fun _=>True) v10_ r11∧Below w.heap.size w w':=by
 have hu36:=Try.underlying36;have B0:=Aside0.mk hr0_0;have HC0_0:=Aside0.mk hc0_0;clear hr0_0 hc0_0;have B1:=Aside0.mk hr0_4;have HC0_4:=Aside0.mk hc0_4;clear hr0_4 hc0_4;have Az:=Aside0.mk hr0_10;have HC0_10:=Aside0.mk hc0_10;clear hr0_10 hc0_10;have HB:=Aside0.mk (Below.refl w.heap.size w)
 have H:((some (([]:List Bool):List Bool)).bind fun y103=>(if y103.length + Ac.length < 140737488355328 then ((some (([]:List Int):List Int)).bind fun y109=>(if y109.length + A6.length < 17592186044416 then ((some (([]:List (S86)):List (S86))).bind fun y115=>(if y115.length + A1.length < 5864062014805 then (some ((y103 ++ Ac),A3,A4,A5,(y109 ++ A6),A7,A8,A9,Aa,Ab,(y115 ++ A1))) else (none))) else (none))) else (none)))=some (r1,r2,r3,r4,r5,r6,r7,r8,r9,r10,r11):=h
 clear h
 obtain ⟨y103,hy103⟩:∃ y_:List Bool,y_=(([]:List Bool)):=⟨_,rfl⟩
 replace H:(if y103.length + Ac.length < 140737488355328 then ((some (([]:List Int):List Int)).bind fun y109=>(if y109.length + A6.length < 17592186044416 then ((some (([]:List (S86)):List (S86))).bind fun y115=>(if y115.length + A1.length < 5864062014805 then (some ((y103 ++ Ac),A3,A4,A5,(y109 ++ A6),A7,A8,A9,Aa,Ab,(y115 ++ A1))) else (none))) else (none))) else (none))=some (r1,r2,r3,r4,r5,r6,r7,r8,r9,r10,r11):=by first|(rw [hy103];with_reducible exact H)|(have H2_:=(Option.bind_some _ _).symm.trans H;rw [hy103];with_reducible exact H2_)|(have H2_:=(Option.bind_some _ _).symm.trans H;with_reducible exact H2_)|with_reducible exact H|(rw [hy103];exact H)|exact H
 have Ny103:=Aside0.mk hy103;clear hy103
 by_cases c2:y103.length + Ac.length < 140737488355328
 ·rw [if_pos c2] at H
  have LMc2:=Aside0.mk c2;clear c2
  obtain ⟨y106,hy106⟩:∃ y_:List Bool,y_=(y103 ++ Ac):=⟨_,rfl⟩
  replace H:((some (([]:List Int):List Int)).bind fun y109=>(if y109.length + A6.length < 17592186044416 then ((some (([]:List (S86)):List (S86))).bind fun y115=>(if y115.length + A1.length < 5864062014805 then (some (y106,A3,A4,A5,(y109 ++ A6),A7,A8,A9,Aa,Ab,(y115 ++ A1))) else (none))) else (none)))=some (r1,r2,r3,r4,r5,r6,r7,r8,r9,r10,r11):=by first|(rw [hy106];with_reducible exact H)|(have H2_:=(Option.bind_some _ _).symm.trans H;rw [hy106];with_reducible exact H2_)|(have H2_:=(Option.bind_some _ _).symm.trans H;with_reducible exact H2_)|with_reducible exact H|(rw [hy106];exact H)|exact H
  have Ny106:=Aside0.mk hy106;clear hy106
  obtain ⟨y109,hy109⟩:∃ y_:List Int,y_=(([]:List Int)):=⟨_,rfl⟩
  replace H:(if y109.length + A6.length < 17592186044416 then ((some (([]:List (S86)):List (S86))).bind fun y115=>(if y115.length + A1.length < 5864062014805 then (some (y106,A3,A4,A5,(y109 ++ A6),A7,A8,A9,Aa,Ab,(y115 ++ A1))) else (none))) else (none))=some (r1,r2,r3,r4,r5,r6,r7,r8,r9,r10,r11):=by first|(rw [hy109];with_reducible exact H)|(have H2_:=(Option.bind_some _ _).symm.trans H;rw [hy109];with_reducible exact H2_)|(have H2_:=(Option.bind_some _ _).symm.trans H;with_reducible exact H2_)|with_reducible exact H|(rw [hy109];exact H)|exact H
  have Ny109:=Aside0.mk hy109;clear hy109
  by_cases c3:y109.length + A6.length < 17592186044416
  ·rw [if_pos c3] at H
   have LMc3:=Aside0.mk c3;clear c3
   obtain ⟨y112,hy112⟩:∃ y_:List Int,y_=(y109 ++ A6):=⟨_,rfl⟩
   replace H:((some (([]:List (S86)):List (S86))).bind fun y115=>(if y115.length + A1.length < 5864062014805 then (some (y106,A3,A4,A5,y112,A7,A8,A9,Aa,Ab,(y115 ++ A1))) else (none)))=some (r1,r2,r3,r4,r5,r6,r7,r8,r9,r10,r11):=by first|(rw [hy112];with_reducible exact H)|(have H2_:=(Option.bind_some _ _).symm.trans H;rw [hy112];with_reducible exact H2_)|(have H2_:=(Option.bind_some _ _).symm.trans H;with_reducible exact H2_)|with_reducible exact H|(rw [hy112];exact H)|exact H
   have Ny112:=Aside0.mk hy112;clear hy112
   obtain ⟨y115,hy115⟩:∃ y_:List (S86),y_=(([]:List (S86))):=⟨_,rfl⟩
   replace H:(if y115.length + A1.length < 5864062014805 then (some (y106,A3,A4,A5,y112,A7,A8,A9,Aa,Ab,(y115 ++ A1))) else (none))=some (r1,r2,r3,r4,r5,r6,r7,r8,r9,r10,r11):=by first|(rw [hy115];with_reducible exact H)|(have H2_:=(Option.bind_some _ _).symm.trans H;rw [hy115];with_reducible exact H2_)|(have H2_:=(Option.bind_some _ _).symm.trans H;with_reducible exact H2_)|with_reducible exact H|(rw [hy115];exact H)|exact H
   have Ny115:=Aside0.mk hy115;clear hy115
   by_cases c4:y115.length + A1.length < 5864062014805
   ·rw [if_pos c4] at H
    have LMc4:=Aside0.mk c4;clear c4
    obtain ⟨y118,hy118⟩:∃ y_:List (S86),y_=(y115 ++ A1):=⟨_,rfl⟩
    replace H:(some (y106,A3,A4,A5,y112,A7,A8,A9,Aa,Ab,y118))=some (r1,r2,r3,r4,r5,r6,r7,r8,r9,r10,r11):=by first|(rw [hy118];with_reducible exact H)|(have H2_:=(Option.bind_some _ _).symm.trans H;rw [hy118];with_reducible exact H2_)|(have H2_:=(Option.bind_some _ _).symm.trans H;with_reducible exact H2_)|with_reducible exact H|(rw [hy118];exact H)|exact H
    have Ny118:=Aside0.mk hy118;clear hy118
    simp only [Option.some.injEq,Prod.mk.injEq] at H
    obtain ⟨rfl,rfl,rfl,rfl,rfl,rfl,rfl,rfl,rfl,rfl,rfl⟩:=H
    go_enter Try.func81,Try.ntmps81
    go_wp2_with (first|((with_reducible refine gate_dst (N:=1) rfl ?_);refine bx (N:=1) (cs:=#[.slice Av Ac.length Aw,.int .i64 A3,.string A4,.int .i64 A5,.slice Ao A6.length Ap,.int .i64 A7,.bool A8,.int .i64 A9,.int .i64 Aa,.int .i64 Ab,.slice Ag A1.length Ah]) (t:=36) ?_;intro Aq hg w5 hbox hb;have A0:=Aside0.mk (hbox);have GW101:=bz0 hg HB;have Aj:=bz0 hg HB;replace HB:=bs0 HB hb;clear hb hbox hg)|((with_reducible refine gate_dst (N:=2) rfl ?_);refine bx (N:=2) (cs:=#[.slice none 0 0,.int .i64 0,.string (⟨#[]⟩:ByteArray),.int .i64 0,.slice none 0 0,.int .i64 0,.bool false,.int .i64 0,.int .i64 0,.int .i64 0,.slice none 0 0]) (t:=36) ?_;intro As hg w6 hbox hb;have A2:=Aside0.mk (hbox);have GW102:=bz1 hg HB Aj;have Ax:=bz1 hg HB Aj;replace HB:=bs1 HB hb Aj;have Au:=nl hg A0;have Ad:=ng hg A0;replace A0:=bb A0 hb;clear hb hbox hg)|((with_reducible refine gate_dst (N:=3) rfl ?_);refine Kd.R_lit Kd.bool _ 4 ?hg (N:=3) ?hd (xs:=([]:List Bool)) (inner:=[]) (ok:=fun _=>True) (okp:=fun _=>True) ?hr ?hp (fun _ hk=>hk) trivial (Below.refl _ _) (Nat.le_refl _) (by simp) ?_;(case hd=>rfl);(case hg=>rfl);(case hr=>first|(go_simp;done)|(go_simp;rfl));(case hp=>exact (Reps.none _ _));intro v104 w7 ho8 hb hg_ hnew_;clear hg_ hnew_;(first|rw [← Ny103.out] at ho8|(simp only [Int.reduceToNat] at ho8;rw [← Ny103.out] at ho8));have At:=Aside0.mk (Kd.R_lower ho8 (below_size (tb HB)));replace A0:=bb A0 hb;replace A2:=bb A2 hb;replace HB:=bs2 HB hb Aj Ax;clear hb ho8;have hnb9:=Au.out;have hnc9:=Ad.out;have hcz10__:=c11_ A0;have hfz10__:=f_ A0)|((with_reducible refine gate_builtin (b := .append) (xs:=#[.tmp 3,.tmp 5]) rfl ?_);at_builtin;refine Kd.R_append_rows Kd.bool (w0:=w) w.heap.size rfl (.tmp 3) (.tmp 5) 22 4 (.bool false) 1 rfl Try.underlying22 info4 rfl (by decide) (by omega) v104 y103 Ac _ _ _ (fun _=>True) (fun _=>False) rfl rfl ?aO ?aR (fun _ _ h=>h) (fun _ h=>h.elim) ?aF ?aB ?aS ?aL ?_;(case aR=>exact cw (Kd.C_below B0.out HB.out));(case aB=>exact (tb HB));(case aF=>exact (fun _ _=>trivial));(case aO=>exact (ra At));(case aS=>exact (below_size (tb HB)));(case aL=>have:=LMc2.out;omega);intro v107 w11 ho hb hg hat;rw [← Ny106.out] at ho;replace A0:=Aside0.mk (blk_grown (g:=Aq) (o := .cells #[.slice Av Ac.length Aw,.int .i64 A3,.string A4,.int .i64 A5,.slice Ao A6.length Ap,.int .i64 A7,.bool A8,.int .i64 A9,.int .i64 Aa,.int .i64 Ab,.slice Ag A1.length Ah] 36 (0,0)) (dr A0) hg (Kd.R_ne At.out A0.out (by decide)));replace A2:=Aside0.mk (blk_grown (g:=As) (o := .cells #[.slice none 0 0,.int .i64 0,.string (⟨#[]⟩:ByteArray),.int .i64 0,.slice none 0 0,.int .i64 0,.bool false,.int .i64 0,.int .i64 0,.int .i64 0,.slice none 0 0] 36 (0,0)) (dr A2) hg (Kd.R_ne At.out A2.out (by decide)));replace HB:=Aside0.mk (hb);have Ai:=Aside0.mk (ho);clear At;clear ho hb hg hat;obtain ⟨Ae,Af,eo12⟩:=Kd.R_slice Ai.out;subst eo12;have hcz13__:=c11_ A0;have hfz13__:=f_ A0)|((with_reducible refine gate_dst (N:=8) rfl ?_);refine Kd.R_lit (Kd.int .i64) _ 3 ?hg (N:=8) ?hd (xs:=([]:List Int)) (inner:=[]) (ok:=fun _=>True) (okp:=fun _=>True) ?hr ?hp (fun _ hk=>hk) trivial (Below.refl _ _) (Nat.le_refl _) (by simp) ?_;(case hd=>rfl);(case hg=>rfl);(case hr=>first|(go_simp;done)|(go_simp;rfl));(case hp=>exact (Reps.none _ _));intro v110 w14 ho15 hb hg_ hnew_;clear hg_ hnew_;(first|rw [← Ny109.out] at ho15|(simp only [Int.reduceToNat] at ho15;rw [← Ny109.out] at ho15));replace Ai:=rbf Ai A0 hb;have Ar:=Aside0.mk (Kd.R_lower ho15 (below_size (tb HB)));replace A0:=Aside0.mk (blk_below (g:=Aq) (o := .cells #[.slice Ae y106.length Af,.int .i64 A3,.string A4,.int .i64 A5,.slice Ao A6.length Ap,.int .i64 A7,.bool A8,.int .i64 A9,.int .i64 Aa,.int .i64 Ab,.slice Ag A1.length Ah] 36 (0,0)) (by (with_reducible repeat (first|refine blk_drewN ?_ _|refine blk_drew ?_|refine blk_alloc ?_ _));refine blk_put (cs:=#[.slice Av Ac.length Aw,.int .i64 A3,.string A4,.int .i64 A5,.slice Ao A6.length Ap,.int .i64 A7,.bool A8,.int .i64 A9,.int .i64 Aa,.int .i64 Ab,.slice Ag A1.length Ah]) ?_ 0 _ rfl;(with_reducible repeat (first|refine blk_drewN ?_ _|refine blk_drew ?_|refine blk_alloc ?_ _));exact A0.out) hb);replace A2:=Aside0.mk (blk_below (dq A2 Ad) hb);replace HB:=bs2 HB hb Aj Ax;clear hb ho15;have hcz16__:=c11_ A0;have hfz16__:=f_ A0)|((with_reducible refine gate_builtin (b := .append) (xs:=#[.tmp 8,.tmp 10]) rfl ?_);at_builtin;refine Kd.R_append_rows (Kd.int .i64) (w0:=w) w.heap.size rfl (.tmp 8) (.tmp 10) 33 3 (.int .i64 0) 8 rfl Try.underlying33 info3 rfl (by decide) (by omega) v110 y109 A6 _ _ _ (fun _=>True) (fun _=>False) rfl rfl ?aO ?aR (fun _ _ h=>h) (fun _ h=>h.elim) ?aF ?aB ?aS ?aL ?_;(case aR=>exact cw (Kd.C_below B1.out HB.out));(case aB=>exact (tb HB));(case aF=>exact (fun _ _=>trivial));(case aO=>exact (ra Ar));(case aS=>exact (below_size (tb HB)));(case aL=>have:=LMc3.out;omega);intro v113 w17 ho hb hg hat;rw [← Ny112.out] at ho;replace A0:=Aside0.mk (blk_grown (g:=Aq) (o := .cells #[.slice Ae y106.length Af,.int .i64 A3,.string A4,.int .i64 A5,.slice Ao A6.length Ap,.int .i64 A7,.bool A8,.int .i64 A9,.int .i64 Aa,.int .i64 Ab,.slice Ag A1.length Ah] 36 (0,0)) (dr A0) hg (Kd.R_ne Ar.out A0.out (by decide)));replace A2:=Aside0.mk (blk_grown (g:=As) (o := .cells #[.slice none 0 0,.int .i64 0,.string (⟨#[]⟩:ByteArray),.int .i64 0,.slice none 0 0,.int .i64 0,.bool false,.int .i64 0,.int .i64 0,.int .i64 0,.slice none 0 0] 36 (0,0)) (dr A2) hg (Kd.R_ne Ar.out A2.out (by decide)));replace Ai:=Aside0.mk (Kd.R_over' (ra Ai) (Kd.R_typed (ra Ar)) (by decide) hg);replace HB:=Aside0.mk (hb);have Ak:=Aside0.mk (ho);clear Ar;clear ho hb hg hat;obtain ⟨Am,An,eo18⟩:=Kd.R_slice Ak.out;subst eo18;have hcz19__:=c11_ A0;have hfz19__:=f_ A0)|((with_reducible refine gate_dst (N:=13) rfl ?_);refine Kd.R_lit k86 _ 86 ?hg (N:=13) ?hd (xs:=([]:List (S86))) (inner:=[]) (ok:=fun _=>True) (okp:=fun _=>True) ?hr ?hp (fun _ hk=>hk) trivial (Below.refl _ _) (Nat.le_refl _) (by simp) ?_;(case hd=>rfl);(case hg=>rfl);(case hr=>first|(go_simp;done)|(go_simp;rfl));(case hp=>exact (Reps.none _ _));intro v116 w20 ho21 hb hg_ hnew_;clear hg_ hnew_;(first|rw [← Ny115.out] at ho21|(simp only [Int.reduceToNat] at ho21;rw [← Ny115.out] at ho21));replace Ai:=rbf Ai A0 hb;replace Ak:=rbf Ak A0 hb;have Al:=Aside0.mk (Kd.R_lower ho21 (below_size (tb HB)));replace A0:=Aside0.mk (blk_below (g:=Aq) (o := .cells #[.slice Ae y106.length Af,.int .i64 A3,.string A4,.int .i64 A5,.slice Am y112.length An,.int .i64 A7,.bool A8,.int .i64 A9,.int .i64 Aa,.int .i64 Ab,.slice Ag A1.length Ah] 36 (0,0)) (by (with_reducible repeat (first|refine blk_drewN ?_ _|refine blk_drew ?_|refine blk_alloc ?_ _));refine blk_put (cs:=#[.slice Ae y106.length Af,.int .i64 A3,.string A4,.int .i64 A5,.slice Ao A6.length Ap,.int .i64 A7,.bool A8,.int .i64 A9,.int .i64 Aa,.int .i64 Ab,.slice Ag A1.length Ah]) ?_ 4 _ rfl;(with_reducible repeat (first|refine blk_drewN ?_ _|refine blk_drew ?_|refine blk_alloc ?_ _));exact A0.out) hb);replace A2:=Aside0.mk (blk_below (dq A2 Ad) hb);replace HB:=bs2 HB hb Aj Ax;clear hb ho21;have hcz22__:=c11_ A0;have hfz22__:=f_ A0)|((with_reducible refine gate_builtin (b := .append) (xs:=#[.tmp 13,.tmp 15]) rfl ?_);at_builtin;refine Kd.R_append_rows k86 (w0:=w) w.heap.size rfl (.tmp 13) (.tmp 15) 34 86 (.agg #[(.string ⟨#[]⟩),(.int .i64 0)]) 24 rfl Try.underlying34 info86 rfl (by decide) (by omega) v116 y115 A1 _ _ _ (fun _=>True) (fun _=>False) rfl rfl ?aO ?aR (fun _ _ h=>h) (fun _ h=>h.elim) ?aF ?aB ?aS ?aL ?_;(case aR=>exact cw (Kd.C_below Az.out HB.out));(case aB=>exact (tb HB));(case aF=>exact (fun _ _=>trivial));(case aO=>exact (ra Al));(case aS=>exact (below_size (tb HB)));(case aL=>have:=LMc4.out;omega);intro v119 w23 ho hb hg hat;rw [← Ny118.out] at ho;replace A0:=Aside0.mk (blk_grown (g:=Aq) (o := .cells #[.slice Ae y106.length Af,.int .i64 A3,.string A4,.int .i64 A5,.slice Am y112.length An,.int .i64 A7,.bool A8,.int .i64 A9,.int .i64 Aa,.int .i64 Ab,.slice Ag A1.length Ah] 36 (0,0)) (dr A0) hg (Kd.R_ne Al.out A0.out (by decide)));replace A2:=Aside0.mk (blk_grown (g:=As) (o := .cells #[.slice none 0 0,.int .i64 0,.string (⟨#[]⟩:ByteArray),.int .i64 0,.slice none 0 0,.int .i64 0,.bool false,.int .i64 0,.int .i64 0,.int .i64 0,.slice none 0 0] 36 (0,0)) (dr A2) hg (Kd.R_ne Al.out A2.out (by decide)));replace Ai:=Aside0.mk (Kd.R_over' (ra Ai) (Kd.R_typed (ra Al)) (by decide) hg);replace Ak:=Aside0.mk (Kd.R_over' (ra Ak) (Kd.R_typed (ra Al)) (by decide) hg);replace HB:=Aside0.mk (hb);have Ay:=Aside0.mk (ho);clear Al;clear ho hb hg hat;obtain ⟨Ao24,co24,eo24⟩:=Kd.R_slice Ay.out;subst eo24;have hcz25__:=c11_ A0;have hfz25__:=f_ A0;have hcz26__:=c11_ A2;have hfz26__:=f_ A2))
    refine bodyPost_ret (results_cell_row rfl _ _ As 36 #[.slice Ae y106.length Af,.int .i64 A3,.string A4,.int .i64 A5,.slice Am y112.length An,.int .i64 A7,.bool A8,.int .i64 A9,.int .i64 Aa,.int .i64 Ab,.slice Ao24 y118.length co24] (0,0) _ rfl (by (with_reducible repeat (first|refine blk_drewN ?_ _|refine blk_drew ?_|refine blk_alloc ?_ _));refine blk_put (cs:=#[.slice Ae y106.length Af,.int .i64 A3,.string A4,.int .i64 A5,.slice Am y112.length An,.int .i64 A7,.bool A8,.int .i64 A9,.int .i64 Aa,.int .i64 Ab,.slice none 0 0]) ?_ 10 _ rfl;(with_reducible repeat (first|refine blk_drewN ?_ _|refine blk_drew ?_|refine blk_alloc ?_ _));refine blk_put (cs:=#[.slice Ae y106.length Af,.int .i64 A3,.string A4,.int .i64 A5,.slice Am y112.length An,.int .i64 A7,.bool A8,.int .i64 A9,.int .i64 Aa,.int .i64 0,.slice none 0 0]) ?_ 9 _ rfl;(with_reducible repeat (first|refine blk_drewN ?_ _|refine blk_drew ?_|refine blk_alloc ?_ _));refine blk_put (cs:=#[.slice Ae y106.length Af,.int .i64 A3,.string A4,.int .i64 A5,.slice Am y112.length An,.int .i64 A7,.bool A8,.int .i64 A9,.int .i64 0,.int .i64 0,.slice none 0 0]) ?_ 8 _ rfl;(with_reducible repeat (first|refine blk_drewN ?_ _|refine blk_drew ?_|refine blk_alloc ?_ _));refine blk_put (cs:=#[.slice Ae y106.length Af,.int .i64 A3,.string A4,.int .i64 A5,.slice Am y112.length An,.int .i64 A7,.bool A8,.int .i64 0,.int .i64 0,.int .i64 0,.slice none 0 0]) ?_ 7 _ rfl;(with_reducible repeat (first|refine blk_drewN ?_ _|refine blk_drew ?_|refine blk_alloc ?_ _));refine blk_put (cs:=#[.slice Ae y106.length Af,.int .i64 A3,.string A4,.int .i64 A5,.slice Am y112.length An,.int .i64 A7,.bool false,.int .i64 0,.int .i64 0,.int .i64 0,.slice none 0 0]) ?_ 6 _ rfl;(with_reducible repeat (first|refine blk_drewN ?_ _|refine blk_drew ?_|refine blk_alloc ?_ _));refine blk_put (cs:=#[.slice Ae y106.length Af,.int .i64 A3,.string A4,.int .i64 A5,.slice Am y112.length An,.int .i64 0,.bool false,.int .i64 0,.int .i64 0,.int .i64 0,.slice none 0 0]) ?_ 5 _ rfl;(with_reducible repeat (first|refine blk_drewN ?_ _|refine blk_drew ?_|refine blk_alloc ?_ _));refine blk_put (cs:=#[.slice Ae y106.length Af,.int .i64 A3,.string A4,.int .i64 A5,.slice none 0 0,.int .i64 0,.bool false,.int .i64 0,.int .i64 0,.int .i64 0,.slice none 0 0]) ?_ 4 _ rfl;(with_reducible repeat (first|refine blk_drewN ?_ _|refine blk_drew ?_|refine blk_alloc ?_ _));refine blk_put (cs:=#[.slice Ae y106.length Af,.int .i64 A3,.string A4,.int .i64 0,.slice none 0 0,.int .i64 0,.bool false,.int .i64 0,.int .i64 0,.int .i64 0,.slice none 0 0]) ?_ 3 _ rfl;(with_reducible repeat (first|refine blk_drewN ?_ _|refine blk_drew ?_|refine blk_alloc ?_ _));refine blk_put (cs:=#[.slice Ae y106.length Af,.int .i64 A3,.string (⟨#[]⟩:ByteArray),.int .i64 0,.slice none 0 0,.int .i64 0,.bool false,.int .i64 0,.int .i64 0,.int .i64 0,.slice none 0 0]) ?_ 2 _ rfl;(with_reducible repeat (first|refine blk_drewN ?_ _|refine blk_drew ?_|refine blk_alloc ?_ _));refine blk_put (cs:=#[.slice Ae y106.length Af,.int .i64 0,.string (⟨#[]⟩:ByteArray),.int .i64 0,.slice none 0 0,.int .i64 0,.bool false,.int .i64 0,.int .i64 0,.int .i64 0,.slice none 0 0]) ?_ 1 _ rfl;(with_reducible repeat (first|refine blk_drewN ?_ _|refine blk_drew ?_|refine blk_alloc ?_ _));refine blk_put (cs:=#[.slice none 0 0,.int .i64 0,.string (⟨#[]⟩:ByteArray),.int .i64 0,.slice none 0 0,.int .i64 0,.bool false,.int .i64 0,.int .i64 0,.int .i64 0,.slice none 0 0]) ?_ 0 _ rfl;(with_reducible repeat (first|refine blk_drewN ?_ _|refine blk_drew ?_|refine blk_alloc ?_ _));refine blk_far ?_ Ad.out _;(with_reducible repeat (first|refine blk_drewN ?_ _|refine blk_drew ?_|refine blk_alloc ?_ _));exact A2.out) Try.underlying36 rfl (by kernel_rfl)) rfl ?_
    exact ⟨_,_,_,er,by exact rfs (Kd.R_types (Kd.R_types Ai.out A0.out (by decide)) A2.out (by decide)),by exact rfs (Kd.R_types (Kd.R_types Ak.out A0.out (by decide)) A2.out (by decide)),by exact rfs (Kd.R_types (Kd.R_types Ay.out A0.out (by decide)) A2.out (by decide)),tb HB⟩
   ·rw [if_neg c4] at H
    exact absurd H (by simp)
  ·rw [if_neg c3] at H
   exact absurd H (by simp)
 ·rw [if_neg c2] at H
  exact absurd H (by simp)
def spec_Known.l0:Nat→Int→Int→ByteArray→Option (Int)
  | 0,_,_,_=>none
  | k + 1,x3,x102000,x102001=>if x3 < (x102001.size:Int) then (if 0≤x3 then (if 0 < (x102001.size:Int) then (if (bt x102001 x3)=(bt x102001 0) then (spec_Known.l0 k (wrap64 (x3 + 1)) x102000 x102001) else (some (-1))) else (none)) else (none)) else (if 0 < (x102001.size:Int) then (some (wrap64 ((wrap64 (bt x102001 0)) - 48))) else (none))
def spec_Known.f (k:Nat) (A3:Int) (A0:ByteArray):Option (Int):=(spec_TableOk.f k A3 A0).bind fun A8=>(if A8=true then (spec_Known.l0 k 1 A3 A0) else (some (-1)))
set_option maxHeartbeats 80000000 in
set_option maxRecDepth 100000 in
theorem spec_Known.calls (k:Nat) (A3:Int) (A0:ByteArray) (r:Int) (w:World) (h:spec_Known.f k A3 A0=some r) :
  Calls Try.prog 120 #[.agg #[.int .i64 A3,.string A0]] w fun e w'=>e = .returned (.int .i64 r)∧Below w.heap.size w w':=by
 have hu29:=Try.underlying29;have HB:=Aside0.mk (Below.refl w.heap.size w)
 have H:((spec_TableOk.f k A3 A0).bind fun A8=>(if A8=true then (spec_Known.l0 k 1 A3 A0) else (some (-1))))=some r:=h
 clear h
 replace H:=Option.bind_eq_some_iff.mp H
 obtain ⟨A8,A20,H⟩:=H
 replace H:(if A8=true then (spec_Known.l0 k 1 A3 A0) else (some (-1)))=some r:=H
 have A2:=Aside0.mk A20;clear A20
 by_cases c3:A8=true
 ·subst c3
  have H1:(spec_Known.l0 k 1 A3 A0)=some r:=by rw [if_pos rfl] at H;exact H
  clear H;have H:=H1;clear H1
  have H':=Aside0.mk H
  clear H
  go_enter Try.func120,Try.ntmps120
  go_wp2_with (first|((with_reducible refine gate_dst (N:=1) rfl ?_);refine bx (N:=1) (cs:=#[.int .i64 A3,.string A0]) (t:=29) ?_;intro A6 hg w4 hbox hb;have A1:=Aside0.mk (hbox);have A7:=bz0 hg HB;have A5:=bz0 hg HB;replace HB:=bs0 HB hb;clear hb hbox hg;have hcz5__:=c2_ A1;have hfz5__:=f_ A1)|(go_at_call 105;(try simp only [i64_w,i32_w]);(with_reducible refine (spec_TableOk.calls k A3 A0 true _ A2.out).mono ?_);rintro e w6 ⟨rfl,hb⟩;replace A1:=bb A1 hb;replace HB:=bs1 HB hb A5;(try clear hb);(try clear hb2);(try clear hk);(try clear hi)))
  repeat (go_quiet (first|((with_reducible refine gate_dst (N:=1) rfl ?_);refine bx (N:=1) (cs:=#[.int .i64 A3,.string A0]) (t:=29) ?_;intro A6 hg w4 hbox hb;have A1:=Aside0.mk (hbox);have A7:=bz0 hg HB;have A5:=bz0 hg HB;replace HB:=bs0 HB hb;clear hb hbox hg;have hcz5__:=c2_ A1;have hfz5__:=f_ A1)|(go_at_call 105;(try simp only [i64_w,i32_w]);(with_reducible refine (spec_TableOk.calls k A3 A0 true _ A2.out).mono ?_);rintro e w6 ⟨rfl,hb⟩;replace A1:=bb A1 hb;replace HB:=bs1 HB hb A5;(try clear hb);(try clear hb2);(try clear hk);(try clear hi)));try go_wp2_with (first|((with_reducible refine gate_dst (N:=1) rfl ?_);refine bx (N:=1) (cs:=#[.int .i64 A3,.string A0]) (t:=29) ?_;intro A6 hg w4 hbox hb;have A1:=Aside0.mk (hbox);have A7:=bz0 hg HB;have A5:=bz0 hg HB;replace HB:=bs0 HB hb;clear hb hbox hg;have hcz5__:=c2_ A1;have hfz5__:=f_ A1)|(go_at_call 105;(try simp only [i64_w,i32_w]);(with_reducible refine (spec_TableOk.calls k A3 A0 true _ A2.out).mono ?_);rintro e w6 ⟨rfl,hb⟩;replace A1:=bb A1 hb;replace HB:=bs1 HB hb A5;(try clear hb);(try clear hb2);(try clear hk);(try clear hi))))
  go_loopg [3] k (fun kq v3 w'=>∃ (A4:Int),v3 = .int .i64 A4∧Aside0 (spec_Known.l0 kq A4 A3 A0=some r)∧Aside0 (kq≤k)∧Aside0 (w'.heap[A6]? = some (.cells #[.int .i64 A3,.string A0] 29 (0,0)))∧Aside0 (Below w.heap.size w w'))
  case atStart=>exact ⟨(1),(by first|rfl|(simp;done)|(simp [*];done)),H',⟨Nat.le_refl _⟩,⟨dr A1⟩,⟨by exact tb HB⟩⟩
  case round =>
   clear H'
   (try clear c1);(try clear p2);(try clear c3);(try clear hcz5__);(try clear hfz5__)
   obtain ⟨A4,rfl,HA,HK1,A1,HB⟩:=hrel
   cases gk with
      | zero=>exact absurd HA.out (by simp [spec_Known.l0])
      | succ k1 =>
    have H:=HA.out;clear HA
    simp only [spec_Known.l0] at H
    by_cases c7:A4 < (A0.size:Int)
    ·rw [if_pos c7] at H
     have c7b0:decide (A4 < (A0.size:Int))=true:=decide_eq_true c7;clear c7
     by_cases c8:0≤A4
     ·rw [if_pos c8] at H
      have c8b0:decide (0≤A4)=true:=decide_eq_true c8;clear c8
      by_cases c10:0 < (A0.size:Int)
      ·rw [if_pos c10] at H
       have c10b0:decide (0 < (A0.size:Int))=true:=decide_eq_true c10
       have c10b1:decide (0 < A0.size)=true:=decide_eq_true (by omega)
       clear c10
       by_cases c12:(bt A0 A4)=(bt A0 0)
       ·rw [if_pos c12] at H
        have c12b0:((bt A0 A4) == (bt A0 0))=true:=beq_iff_eq.mpr c12;have c12b1:((bt A0 A4) != (bt A0 0))=false:=bne_eq_false_iff_eq.mpr c12;clear c12
        have H':=Aside0.mk H
        clear H;have hcz13__:=c2_ A1;have hfz13__:=f_ A1
        have p9:0≤(A4:Int):=od
        have q9:A4 < (A0.size:Int):=od
        have hx9:=bt_at A0 A4
        replace p9:=eq_true p9
        replace q9:=eq_true q9
        have p11:0≤(0:Int):=(by omega)
        have q11:0 < A0.size:=(by have:(0:Int) < (A0.size:Int):=od;omega)
        have hx11:∀ h:0 < A0.size,((A0[0]'h).toNat:Int)=bt A0 0:=bt_at A0 0
        clear p11
        have qi11:(0 < (A0.size:Int))=True:=eq_true (od)
        replace q11:=eq_true q11
        go_wp2
        repeat (go_quiet (fail);try go_wp2)
        go_roundg k1
        case measure=>have:=HK1.out;omega
        case rel=>exact ⟨(wrap64 (A4 + 1)),(by first|rfl|(simp;done)|(simp [*];done)),H',⟨by have:=HK1.out;omega⟩,⟨dr A1⟩,⟨by exact tb HB⟩⟩
       ·rw [if_neg c12] at H
        have c12b0:((bt A0 A4) == (bt A0 0))=false:=beq_eq_false_iff_ne.mpr c12;have c12b1:((bt A0 A4) != (bt A0 0))=true:=bne_iff_ne.mpr c12
        obtain rfl:=Option.some.inj H
        have hcz14__:=c2_ A1;have hfz14__:=f_ A1
        have p9:0≤(A4:Int):=od
        have q9:A4 < (A0.size:Int):=od
        have hx9:=bt_at A0 A4
        replace p9:=eq_true p9
        replace q9:=eq_true q9
        have p11:0≤(0:Int):=(by omega)
        have q11:0 < A0.size:=(by have:(0:Int) < (A0.size:Int):=od;omega)
        have hx11:∀ h:0 < A0.size,((A0[0]'h).toNat:Int)=bt A0 0:=bt_at A0 0
        clear p11
        have qi11:(0 < (A0.size:Int))=True:=eq_true (od)
        replace q11:=eq_true q11
        go_wp2
        repeat (go_quiet (fail);try go_wp2)
        go_ret
        exact ⟨er,tb HB⟩
      ·rw [if_neg c10] at H
       exact absurd H (by simp)
     ·rw [if_neg c8] at H
      exact absurd H (by simp)
    ·rw [if_neg c7] at H
     have c7b0:decide (A4 < (A0.size:Int))=false:=decide_eq_false c7;clear c7
     by_cases c15:0 < (A0.size:Int)
     ·rw [if_pos c15] at H
      have c15b0:decide (0 < (A0.size:Int))=true:=decide_eq_true c15
      have c15b1:decide (0 < A0.size)=true:=decide_eq_true (by omega)
      clear c15
      obtain rfl:=Option.some.inj H
      have hcz17__:=c2_ A1;have hfz17__:=f_ A1
      have p16:0≤(0:Int):=(by omega)
      have q16:0 < A0.size:=(by have:(0:Int) < (A0.size:Int):=od;omega)
      have hx16:∀ h:0 < A0.size,((A0[0]'h).toNat:Int)=bt A0 0:=bt_at A0 0
      clear p16
      have qi16:(0 < (A0.size:Int))=True:=eq_true (od)
      replace q16:=eq_true q16
      go_wp2
      repeat (go_quiet (fail);try go_wp2)
      go_ret
      exact ⟨er,tb HB⟩
     ·rw [if_neg c15] at H
      exact absurd H (by simp)
 ·replace c3:=Bool.eq_false_iff.mpr c3
  subst c3
  have H1:(some (-1))=some r:=by rw [if_neg (show ¬ (false=true) by decide)] at H;exact H
  clear H;have H:=H1;clear H1
  obtain rfl:=Option.some.inj H
  go_enter Try.func120,Try.ntmps120
  go_wp2_with (first|((with_reducible refine gate_dst (N:=1) rfl ?_);refine bx (N:=1) (cs:=#[.int .i64 A3,.string A0]) (t:=29) ?_;intro A6 hg w18 hbox hb;have A1:=Aside0.mk (hbox);have A7:=bz0 hg HB;have A5:=bz0 hg HB;replace HB:=bs0 HB hb;clear hb hbox hg;have hcz19__:=c2_ A1;have hfz19__:=f_ A1)|(go_at_call 105;(try simp only [i64_w,i32_w]);(with_reducible refine (spec_TableOk.calls k A3 A0 false _ A2.out).mono ?_);rintro e w20 ⟨rfl,hb⟩;replace A1:=bb A1 hb;replace HB:=bs1 HB hb A5;(try clear hb);(try clear hb2);(try clear hk);(try clear hi)))
  repeat (go_quiet (first|((with_reducible refine gate_dst (N:=1) rfl ?_);refine bx (N:=1) (cs:=#[.int .i64 A3,.string A0]) (t:=29) ?_;intro A6 hg w18 hbox hb;have A1:=Aside0.mk (hbox);have A7:=bz0 hg HB;have A5:=bz0 hg HB;replace HB:=bs0 HB hb;clear hb hbox hg;have hcz19__:=c2_ A1;have hfz19__:=f_ A1)|(go_at_call 105;(try simp only [i64_w,i32_w]);(with_reducible refine (spec_TableOk.calls k A3 A0 false _ A2.out).mono ?_);rintro e w20 ⟨rfl,hb⟩;replace A1:=bb A1 hb;replace HB:=bs1 HB hb A5;(try clear hb);(try clear hb2);(try clear hk);(try clear hi)));try go_wp2_with (first|((with_reducible refine gate_dst (N:=1) rfl ?_);refine bx (N:=1) (cs:=#[.int .i64 A3,.string A0]) (t:=29) ?_;intro A6 hg w18 hbox hb;have A1:=Aside0.mk (hbox);have A7:=bz0 hg HB;have A5:=bz0 hg HB;replace HB:=bs0 HB hb;clear hb hbox hg;have hcz19__:=c2_ A1;have hfz19__:=f_ A1)|(go_at_call 105;(try simp only [i64_w,i32_w]);(with_reducible refine (spec_TableOk.calls k A3 A0 false _ A2.out).mono ?_);rintro e w20 ⟨rfl,hb⟩;replace A1:=bb A1 hb;replace HB:=bs1 HB hb A5;(try clear hb);(try clear hb2);(try clear hk);(try clear hi))))
  go_ret
  exact ⟨er,tb HB⟩
end Go.Proofs.Ytlpfmhikahlcoaa.G
namespace Go.Proofs.Ytlpfmhikahlcoaa.G
open Go.Proofs.Ytlpfmhikahlcoaa.Sh
open Go.RowKit Go.Proofs.YtlpfmhikahlcoaaW.PrintWords Go.Proofs.YtlpfmhikahlcoaaW.PrintLast Go.Proofs.YtlpfmhikahlcoaaW.PrintMore
attribute [local go_sem] max2_int min2_int max_two min_two max_three min_three max_four min_four
set_option linter.unusedVariables false
set_option linter.unusedSimpArgs false
def spec_l03Dec.l0:Nat→Int→ByteArray→Int→Option (ByteArray)
  | 0,_,_,_=>none
  | k + 1,x0,x3,x4=>if x4=0 then (if x0 < 0 then (if 1 + x3.size≤9223372036854775807 then (some ((⟨#[45]⟩:ByteArray) ++ x3)) else (none)) else (some x3)) else (if (Int.tmod x4 10) < 0 then (if 0≤(wrap64 (-(Int.tmod x4 10))) then (if (wrap64 (-(Int.tmod x4 10)))≤(wrap64 ((wrap64 (-(Int.tmod x4 10))) + 1)) then (if (wrap64 ((wrap64 (-(Int.tmod x4 10))) + 1))≤10 then (if ((⟨#[48,49,50,51,52,53,54,55,56,57]⟩:ByteArray).extract ((wrap64 (-(Int.tmod x4 10))):Int).toNat ((wrap64 ((wrap64 (-(Int.tmod x4 10))) + 1)):Int).toNat).size + x3.size≤9223372036854775807 then (spec_l03Dec.l0 k x0 (((⟨#[48,49,50,51,52,53,54,55,56,57]⟩:ByteArray).extract ((wrap64 (-(Int.tmod x4 10))):Int).toNat ((wrap64 ((wrap64 (-(Int.tmod x4 10))) + 1)):Int).toNat) ++ x3) (wrap64 (Int.tdiv x4 10))) else (none)) else (none)) else (none)) else (none)) else (if 0≤(Int.tmod x4 10) then (if (Int.tmod x4 10)≤(wrap64 ((Int.tmod x4 10) + 1)) then (if (wrap64 ((Int.tmod x4 10) + 1))≤10 then (if ((⟨#[48,49,50,51,52,53,54,55,56,57]⟩:ByteArray).extract ((Int.tmod x4 10):Int).toNat ((wrap64 ((Int.tmod x4 10) + 1)):Int).toNat).size + x3.size≤9223372036854775807 then (spec_l03Dec.l0 k x0 (((⟨#[48,49,50,51,52,53,54,55,56,57]⟩:ByteArray).extract ((Int.tmod x4 10):Int).toNat ((wrap64 ((Int.tmod x4 10) + 1)):Int).toNat) ++ x3) (wrap64 (Int.tdiv x4 10))) else (none)) else (none)) else (none)) else (none)))
def spec_l03Dec.f (k:Nat) (a0:Int):Option (ByteArray):=if a0=0 then (some (⟨#[48]⟩:ByteArray)) else (spec_l03Dec.l0 k a0 (⟨#[]⟩:ByteArray) a0)
set_option maxHeartbeats 8000000 in
set_option maxRecDepth 100000 in
theorem spec_l03Dec.calls (k:Nat) (a0:Int) (r:ByteArray) (w:World) (h:spec_l03Dec.f k a0=some r) :
    Calls Try.prog 133 #[.int .i64 a0] w fun e w'=>e = .returned (.string r)∧Drawn0 w w':=by
  have H:(if a0=0 then (some (⟨#[48]⟩:ByteArray)) else (spec_l03Dec.l0 k a0 (⟨#[]⟩:ByteArray) a0))=some r:=h
  clear h
  by_cases c2:a0=0
  · rw [if_pos c2] at H
    have c2b0:(a0 == 0)=true:=beq_iff_eq.mpr c2
    have c2b1:(a0 != 0)=false:=bne_eq_false_iff_eq.mpr c2
    clear c2
    obtain rfl:=Option.some.inj H
    go_enter Try.func133,Try.ntmps133
    go_wp2
    go_ret
    exact ⟨by first|rfl|(simp;done)|(simp [*];done),by repeat (first|exact Drawn0.refl _|apply Drawn0.step)⟩
  · rw [if_neg c2] at H
    have c2b0:(a0 == 0)=false:=beq_eq_false_iff_ne.mpr c2
    have c2b1:(a0 != 0)=true:=bne_iff_ne.mpr c2
    have H':=Aside0.mk H
    clear H
    go_enter Try.func133,Try.ntmps133
    go_wp2
    go_loopg [3,4] k (fun kq v3 v4 w'=>∃ (A0:ByteArray) (A1:Int),v3 = .string A0∧v4 = .int .i64 A1∧Aside0 (spec_l03Dec.l0 kq a0 A0 A1=some r)∧Aside0 (kq≤k)∧Drawn0 w w')
    case atStart=>exact ⟨((⟨#[]⟩:ByteArray)),(a0),(by first|rfl|(simp;done)|(simp [*];done)),(by first|rfl|(simp;done)|(simp [*];done)),H',⟨Nat.le_refl _⟩,by repeat (first|exact Drawn0.refl _|apply Drawn0.step)⟩
    case round =>
      clear H'
      try clear c1
      try clear c2
      try clear c2b0
      try clear c2b1
      try clear p2
      obtain ⟨A0,A1,rfl,rfl,HA,HK1,⟨m1,rfl⟩⟩:=hrel
      cases gk with
      | zero=>exact absurd HA.out (by simp [spec_l03Dec.l0])
      | succ k1 =>
        have H:=HA.out
        clear HA
        simp only [spec_l03Dec.l0] at H
        by_cases c3:A1=0
        · rw [if_pos c3] at H
          have c3b0:(A1 == 0)=true:=beq_iff_eq.mpr c3
          have c3b1:(A1 != 0)=false:=bne_eq_false_iff_eq.mpr c3
          clear c3
          by_cases c4:a0 < 0
          · rw [if_pos c4] at H
            have c4b0:decide (a0 < 0)=true:=decide_eq_true c4
            clear c4
            by_cases c5:1 + A0.size≤9223372036854775807
            · rw [if_pos c5] at H
              have c5b0:=eq_true c5
              have c5b1:decide (1 + A0.size≤9223372036854775807)=true:=decide_eq_true c5
              try have c5b2:(9223372036854775807 < 1 + A0.size)=False:=eq_false (Nat.not_lt.2 c5)
              obtain rfl:=Option.some.inj H
              go_wp2
              go_ret
              exact ⟨by first|rfl|(simp;done)|(simp [*];done),by repeat (first|exact Drawn0.refl _|apply Drawn0.step)⟩
            · rw [if_neg c5] at H
              exact absurd H (by simp)
          · rw [if_neg c4] at H
            have c4b0:decide (a0 < 0)=false:=decide_eq_false c4
            clear c4
            obtain rfl:=Option.some.inj H
            go_wp2
            go_ret
            exact ⟨by first|rfl|(simp;done)|(simp [*];done),by repeat (first|exact Drawn0.refl _|apply Drawn0.step)⟩
        · rw [if_neg c3] at H
          have c3b0:(A1 == 0)=false:=beq_eq_false_iff_ne.mpr c3
          have c3b1:(A1 != 0)=true:=bne_iff_ne.mpr c3
          by_cases c6:(Int.tmod A1 10) < 0
          · rw [if_pos c6] at H
            have c6b0:decide ((Int.tmod A1 10) < 0)=true:=decide_eq_true c6
            clear c6
            obtain ⟨ji7,hji7⟩:∃ j_:Int,(wrap64 (-(Int.tmod A1 10)))=j_:=⟨_,rfl⟩
            replace H:(if 0≤(ji7) then (if (ji7)≤(wrap64 ((ji7) + 1)) then (if (wrap64 ((ji7) + 1))≤10 then (if ((⟨#[48,49,50,51,52,53,54,55,56,57]⟩:ByteArray).extract ((ji7):Int).toNat ((wrap64 ((ji7) + 1)):Int).toNat).size + A0.size≤9223372036854775807 then (spec_l03Dec.l0 k1 a0 (((⟨#[48,49,50,51,52,53,54,55,56,57]⟩:ByteArray).extract ((ji7):Int).toNat ((wrap64 ((ji7) + 1)):Int).toNat) ++ A0) (wrap64 (Int.tdiv A1 10))) else (none)) else (none)) else (none)) else (none))=some r:=by first|(rw [hji7] at H;exact H)|(simp only [hji7] at H ⊢;exact H)
            have hji7w:(IntKind.i64.wrap (-(Int.tmod A1 10)))=ji7:=(i64_w _).trans hji7
            by_cases c8:0≤(ji7)
            · rw [if_pos c8] at H
              have c8b0:=eq_true c8
              have c8b1:decide (0≤(ji7))=true:=decide_eq_true c8
              clear c8
              by_cases c9:(ji7)≤(wrap64 ((ji7) + 1))
              · rw [if_pos c9] at H
                have c9b0:=eq_true c9
                have c9b1:decide ((ji7)≤(wrap64 ((ji7) + 1)))=true:=decide_eq_true c9
                by_cases c10:(wrap64 ((ji7) + 1))≤10
                · rw [if_pos c10] at H
                  have c10b0:=eq_true c10
                  have c10b1:decide ((wrap64 ((ji7) + 1))≤10)=true:=decide_eq_true c10
                  by_cases c11:((⟨#[48,49,50,51,52,53,54,55,56,57]⟩:ByteArray).extract ((ji7):Int).toNat ((wrap64 ((ji7) + 1)):Int).toNat).size + A0.size≤9223372036854775807
                  · rw [if_pos c11] at H
                    have c11b0:=eq_true c11
                    have c11b1:decide (((⟨#[48,49,50,51,52,53,54,55,56,57]⟩:ByteArray).extract ((ji7):Int).toNat ((wrap64 ((ji7) + 1)):Int).toNat).size + A0.size≤9223372036854775807)=true:=decide_eq_true c11
                    try have c11b2:(9223372036854775807 < ((⟨#[48,49,50,51,52,53,54,55,56,57]⟩:ByteArray).extract ((ji7):Int).toNat ((wrap64 ((ji7) + 1)):Int).toNat).size + A0.size)=False:=eq_false (Nat.not_lt.2 c11)
                    (try have c11b3:(9223372036854775807 < (((wrap64 ((ji7) + 1)):Int).toNat - ((ji7):Int).toNat) + A0.size)=False:=eq_false (by have z_0:((⟨#[48,49,50,51,52,53,54,55,56,57]⟩:ByteArray).extract ((ji7):Int).toNat ((wrap64 ((ji7) + 1)):Int).toNat).size=min ((wrap64 ((ji7) + 1)):Int).toNat (⟨#[48,49,50,51,52,53,54,55,56,57]⟩:ByteArray).size - ((ji7):Int).toNat:=ByteArray.size_extract;(try have y_0:(⟨#[48,49,50,51,52,53,54,55,56,57]⟩:ByteArray).size=10:=rfl);omega))
                    have H':=Aside0.mk H
                    clear H
                    go_wp2
                    go_roundg k1
                    case measure=>have:=HK1.out;omega
                    case rel=>exact ⟨(((⟨#[48,49,50,51,52,53,54,55,56,57]⟩:ByteArray).extract ((ji7):Int).toNat ((wrap64 ((ji7) + 1)):Int).toNat) ++ A0),(wrap64 (Int.tdiv A1 10)),(by first|rfl|(simp;done)|(simp only [← hji7] <;> (first|rfl|simp))|(simp [*];done)),(by first|rfl|(simp;done)|(simp [*];done)),(by first|exact H'|(rw [hji7];exact H')),⟨by have:=HK1.out;omega⟩,by repeat (first|exact Drawn0.refl _|apply Drawn0.step)⟩
                  · rw [if_neg c11] at H
                    exact absurd H (by simp)
                · rw [if_neg c10] at H
                  exact absurd H (by simp)
              · rw [if_neg c9] at H
                exact absurd H (by simp)
            · rw [if_neg c8] at H
              exact absurd H (by simp)
          · rw [if_neg c6] at H
            have c6b0:decide ((Int.tmod A1 10) < 0)=false:=decide_eq_false c6
            clear c6
            obtain ⟨ji12,hji12⟩:∃ j_:Int,(Int.tmod A1 10)=j_:=⟨_,rfl⟩
            replace H:(if 0≤(ji12) then (if (ji12)≤(wrap64 ((ji12) + 1)) then (if (wrap64 ((ji12) + 1))≤10 then (if ((⟨#[48,49,50,51,52,53,54,55,56,57]⟩:ByteArray).extract ((ji12):Int).toNat ((wrap64 ((ji12) + 1)):Int).toNat).size + A0.size≤9223372036854775807 then (spec_l03Dec.l0 k1 a0 (((⟨#[48,49,50,51,52,53,54,55,56,57]⟩:ByteArray).extract ((ji12):Int).toNat ((wrap64 ((ji12) + 1)):Int).toNat) ++ A0) (wrap64 (Int.tdiv A1 10))) else (none)) else (none)) else (none)) else (none))=some r:=by first|(rw [hji12] at H;exact H)|(simp only [hji12] at H ⊢;exact H)
            (try rw [hji12] at c6b0)
            by_cases c13:0≤(ji12)
            · rw [if_pos c13] at H
              have c13b0:=eq_true c13
              have c13b1:decide (0≤(ji12))=true:=decide_eq_true c13
              clear c13
              by_cases c14:(ji12)≤(wrap64 ((ji12) + 1))
              · rw [if_pos c14] at H
                have c14b0:=eq_true c14
                have c14b1:decide ((ji12)≤(wrap64 ((ji12) + 1)))=true:=decide_eq_true c14
                by_cases c15:(wrap64 ((ji12) + 1))≤10
                · rw [if_pos c15] at H
                  have c15b0:=eq_true c15
                  have c15b1:decide ((wrap64 ((ji12) + 1))≤10)=true:=decide_eq_true c15
                  by_cases c16:((⟨#[48,49,50,51,52,53,54,55,56,57]⟩:ByteArray).extract ((ji12):Int).toNat ((wrap64 ((ji12) + 1)):Int).toNat).size + A0.size≤9223372036854775807
                  · rw [if_pos c16] at H
                    have c16b0:=eq_true c16
                    have c16b1:decide (((⟨#[48,49,50,51,52,53,54,55,56,57]⟩:ByteArray).extract ((ji12):Int).toNat ((wrap64 ((ji12) + 1)):Int).toNat).size + A0.size≤9223372036854775807)=true:=decide_eq_true c16
                    try have c16b2:(9223372036854775807 < ((⟨#[48,49,50,51,52,53,54,55,56,57]⟩:ByteArray).extract ((ji12):Int).toNat ((wrap64 ((ji12) + 1)):Int).toNat).size + A0.size)=False:=eq_false (Nat.not_lt.2 c16)
                    (try have c16b3:(9223372036854775807 < (((wrap64 ((ji12) + 1)):Int).toNat - ((ji12):Int).toNat) + A0.size)=False:=eq_false (by have z_0:((⟨#[48,49,50,51,52,53,54,55,56,57]⟩:ByteArray).extract ((ji12):Int).toNat ((wrap64 ((ji12) + 1)):Int).toNat).size=min ((wrap64 ((ji12) + 1)):Int).toNat (⟨#[48,49,50,51,52,53,54,55,56,57]⟩:ByteArray).size - ((ji12):Int).toNat:=ByteArray.size_extract;(try have y_0:(⟨#[48,49,50,51,52,53,54,55,56,57]⟩:ByteArray).size=10:=rfl);omega))
                    have H':=Aside0.mk H
                    clear H
                    go_wp2
                    go_roundg k1
                    case measure=>have:=HK1.out;omega
                    case rel=>exact ⟨(((⟨#[48,49,50,51,52,53,54,55,56,57]⟩:ByteArray).extract ((ji12):Int).toNat ((wrap64 ((ji12) + 1)):Int).toNat) ++ A0),(wrap64 (Int.tdiv A1 10)),(by first|rfl|(simp;done)|(simp only [← hji12] <;> (first|rfl|simp))|(simp [*];done)),(by first|rfl|(simp;done)|(simp [*];done)),(by first|exact H'|(rw [hji12];exact H')),⟨by have:=HK1.out;omega⟩,by repeat (first|exact Drawn0.refl _|apply Drawn0.step)⟩
                  · rw [if_neg c16] at H
                    exact absurd H (by simp)
                · rw [if_neg c15] at H
                  exact absurd H (by simp)
              · rw [if_neg c14] at H
                exact absurd H (by simp)
            · rw [if_neg c13] at H
              exact absurd H (by simp)
def spec_TableKey.f (k:Nat) (A5:Int) (A1:ByteArray):Option (ByteArray):=(spec_TableOk.f k A5 A1).bind fun A9=>(if A9=true then ((spec_l03Dec.f k A5).bind fun A6=>(if A6.size + 1≤9223372036854775807 then (if A6.size + 1 + A1.size≤9223372036854775807 then (some ((A6 ++ (⟨#[58]⟩:ByteArray)) ++ A1)) else (none)) else (none))) else (some (⟨#[]⟩:ByteArray)))
set_option maxHeartbeats 8000000 in
set_option maxRecDepth 100000 in
theorem spec_TableKey.calls (k:Nat) (A5:Int) (A1:ByteArray) (r:ByteArray) (w:World) (h:spec_TableKey.f k A5 A1=some r) :
    Calls Try.prog 127 #[.agg #[.int .i64 A5,.string A1]] w fun e w'=>e = .returned (.string r)∧Below w.heap.size w w':=by
  have hu29:=Try.underlying29
  have HB:=Aside0.mk (Below.refl w.heap.size w)
  have H:((spec_TableOk.f k A5 A1).bind fun A9=>(if A9=true then ((spec_l03Dec.f k A5).bind fun A6=>(if A6.size + 1≤9223372036854775807 then (if A6.size + 1 + A1.size≤9223372036854775807 then (some ((A6 ++ (⟨#[58]⟩:ByteArray)) ++ A1)) else (none)) else (none))) else (some (⟨#[]⟩:ByteArray))))=some r:=h
  clear h
  replace H:=Option.bind_eq_some_iff.mp H
  obtain ⟨A9,A20,H⟩:=H
  replace H:(if A9=true then ((spec_l03Dec.f k A5).bind fun A6=>(if A6.size + 1≤9223372036854775807 then (if A6.size + 1 + A1.size≤9223372036854775807 then (some ((A6 ++ (⟨#[58]⟩:ByteArray)) ++ A1)) else (none)) else (none))) else (some (⟨#[]⟩:ByteArray)))=some r:=H
  have A2:=Aside0.mk A20
  clear A20
  by_cases c3:A9=true
  · subst c3
    have H1:((spec_l03Dec.f k A5).bind fun A6=>(if A6.size + 1≤9223372036854775807 then (if A6.size + 1 + A1.size≤9223372036854775807 then (some ((A6 ++ (⟨#[58]⟩:ByteArray)) ++ A1)) else (none)) else (none)))=some r:=by rw [if_pos rfl] at H;exact H
    clear H
    have H:=H1
    clear H1
    replace H:=Option.bind_eq_some_iff.mp H
    obtain ⟨A6,A40,H⟩:=H
    replace H:(if A6.size + 1≤9223372036854775807 then (if A6.size + 1 + A1.size≤9223372036854775807 then (some ((A6 ++ (⟨#[58]⟩:ByteArray)) ++ A1)) else (none)) else (none))=some r:=H
    have A4:=Aside0.mk A40
    clear A40
    by_cases c5:A6.size + 1≤9223372036854775807
    · rw [if_pos c5] at H
      have c5b0:=eq_true c5
      have c5b1:decide (A6.size + 1≤9223372036854775807)=true:=decide_eq_true c5
      try have c5b2:(9223372036854775807 < A6.size + 1)=False:=eq_false (Nat.not_lt.2 c5)
      by_cases c6:A6.size + 1 + A1.size≤9223372036854775807
      · rw [if_pos c6] at H
        have c6b0:=eq_true c6
        have c6b1:decide (A6.size + 1 + A1.size≤9223372036854775807)=true:=decide_eq_true c6
        try have c6b2:(9223372036854775807 < A6.size + 1 + A1.size)=False:=eq_false (Nat.not_lt.2 c6)
        obtain rfl:=Option.some.inj H
        go_enter Try.func127,Try.ntmps127
        go_wp2_with (first|((with_reducible refine gate_dst (N:=1) rfl ?_);refine bx (N:=1) (cs:=#[.int .i64 A5,.string A1]) (t:=29) ?_;intro A3 hg w7 hbox hb;have A0:=Aside0.mk (hbox);have A7:=Aside0.mk ((by rw [hg];exact (below_size (tb HB)):w.heap.size≤A3));have A8:=Aside0.mk ((by rw [hg];exact (below_size (tb HB)):w.heap.size≤A3));replace HB:=Aside0.mk (below_step (tb HB) hb);clear hb hbox hg;have hcz8__:=c2_ A0;have hfz8__:=f_ A0)|(go_at_call 105;(try simp only [i64_w,i32_w]);(with_reducible refine (spec_TableOk.calls k A5 A1 true _ A2.out).mono ?_);rintro e w9 ⟨rfl,hb⟩;replace A0:=Aside0.mk (blk_below (g:=A3) (o := .cells #[.int .i64 A5,.string A1] 29 (0,0)) (dr A0) hb);replace HB:=Aside0.mk (below_step (tb HB) hb);(try clear hb);(try clear hb2);(try clear hk);(try clear hi);have hcz10__:=c2_ A0;have hfz10__:=f_ A0)|(go_at_call 133;(try simp only [i64_w,i32_w]);(with_reducible refine (spec_l03Dec.calls k A5 A6 _ A4.out).mono ?_);rintro e w' ⟨rfl,⟨nd,rfl⟩⟩;(try exact dd)))
        repeat (go_quiet (first|((with_reducible refine gate_dst (N:=1) rfl ?_);refine bx (N:=1) (cs:=#[.int .i64 A5,.string A1]) (t:=29) ?_;intro A3 hg w7 hbox hb;have A0:=Aside0.mk (hbox);have A7:=Aside0.mk ((by rw [hg];exact (below_size (tb HB)):w.heap.size≤A3));have A8:=Aside0.mk ((by rw [hg];exact (below_size (tb HB)):w.heap.size≤A3));replace HB:=Aside0.mk (below_step (tb HB) hb);clear hb hbox hg;have hcz8__:=c2_ A0;have hfz8__:=f_ A0)|(go_at_call 105;(try simp only [i64_w,i32_w]);(with_reducible refine (spec_TableOk.calls k A5 A1 true _ A2.out).mono ?_);rintro e w9 ⟨rfl,hb⟩;replace A0:=Aside0.mk (blk_below (g:=A3) (o := .cells #[.int .i64 A5,.string A1] 29 (0,0)) (dr A0) hb);replace HB:=Aside0.mk (below_step (tb HB) hb);(try clear hb);(try clear hb2);(try clear hk);(try clear hi);have hcz10__:=c2_ A0;have hfz10__:=f_ A0)|(go_at_call 133;(try simp only [i64_w,i32_w]);(with_reducible refine (spec_l03Dec.calls k A5 A6 _ A4.out).mono ?_);rintro e w' ⟨rfl,⟨nd,rfl⟩⟩;(try exact dd)));try go_wp2_with (first|((with_reducible refine gate_dst (N:=1) rfl ?_);refine bx (N:=1) (cs:=#[.int .i64 A5,.string A1]) (t:=29) ?_;intro A3 hg w7 hbox hb;have A0:=Aside0.mk (hbox);have A7:=Aside0.mk ((by rw [hg];exact (below_size (tb HB)):w.heap.size≤A3));have A8:=Aside0.mk ((by rw [hg];exact (below_size (tb HB)):w.heap.size≤A3));replace HB:=Aside0.mk (below_step (tb HB) hb);clear hb hbox hg;have hcz8__:=c2_ A0;have hfz8__:=f_ A0)|(go_at_call 105;(try simp only [i64_w,i32_w]);(with_reducible refine (spec_TableOk.calls k A5 A1 true _ A2.out).mono ?_);rintro e w9 ⟨rfl,hb⟩;replace A0:=Aside0.mk (blk_below (g:=A3) (o := .cells #[.int .i64 A5,.string A1] 29 (0,0)) (dr A0) hb);replace HB:=Aside0.mk (below_step (tb HB) hb);(try clear hb);(try clear hb2);(try clear hk);(try clear hi);have hcz10__:=c2_ A0;have hfz10__:=f_ A0)|(go_at_call 133;(try simp only [i64_w,i32_w]);(with_reducible refine (spec_l03Dec.calls k A5 A6 _ A4.out).mono ?_);rintro e w' ⟨rfl,⟨nd,rfl⟩⟩;(try exact dd))))
        go_ret
        exact ⟨er,tb HB⟩
      · rw [if_neg c6] at H
        exact absurd H (by simp)
    · rw [if_neg c5] at H
      exact absurd H (by simp)
  · replace c3:=Bool.eq_false_iff.mpr c3
    subst c3
    have H1:(some (⟨#[]⟩:ByteArray))=some r:=by rw [if_neg (show ¬ (false=true) by decide)] at H;exact H
    clear H
    have H:=H1
    clear H1
    obtain rfl:=Option.some.inj H
    go_enter Try.func127,Try.ntmps127
    go_wp2_with (first|((with_reducible refine gate_dst (N:=1) rfl ?_);refine bx (N:=1) (cs:=#[.int .i64 A5,.string A1]) (t:=29) ?_;intro A3 hg w11 hbox hb;have A0:=Aside0.mk (hbox);have A7:=Aside0.mk ((by rw [hg];exact (below_size (tb HB)):w.heap.size≤A3));have A8:=Aside0.mk ((by rw [hg];exact (below_size (tb HB)):w.heap.size≤A3));replace HB:=Aside0.mk (below_step (tb HB) hb);clear hb hbox hg;have hcz12__:=c2_ A0;have hfz12__:=f_ A0)|(go_at_call 105;(try simp only [i64_w,i32_w]);(with_reducible refine (spec_TableOk.calls k A5 A1 false _ A2.out).mono ?_);rintro e w13 ⟨rfl,hb⟩;replace A0:=Aside0.mk (blk_below (g:=A3) (o := .cells #[.int .i64 A5,.string A1] 29 (0,0)) (dr A0) hb);replace HB:=Aside0.mk (below_step (tb HB) hb);(try clear hb);(try clear hb2);(try clear hk);(try clear hi)))
    repeat (go_quiet (first|((with_reducible refine gate_dst (N:=1) rfl ?_);refine bx (N:=1) (cs:=#[.int .i64 A5,.string A1]) (t:=29) ?_;intro A3 hg w11 hbox hb;have A0:=Aside0.mk (hbox);have A7:=Aside0.mk ((by rw [hg];exact (below_size (tb HB)):w.heap.size≤A3));have A8:=Aside0.mk ((by rw [hg];exact (below_size (tb HB)):w.heap.size≤A3));replace HB:=Aside0.mk (below_step (tb HB) hb);clear hb hbox hg;have hcz12__:=c2_ A0;have hfz12__:=f_ A0)|(go_at_call 105;(try simp only [i64_w,i32_w]);(with_reducible refine (spec_TableOk.calls k A5 A1 false _ A2.out).mono ?_);rintro e w13 ⟨rfl,hb⟩;replace A0:=Aside0.mk (blk_below (g:=A3) (o := .cells #[.int .i64 A5,.string A1] 29 (0,0)) (dr A0) hb);replace HB:=Aside0.mk (below_step (tb HB) hb);(try clear hb);(try clear hb2);(try clear hk);(try clear hi)));try go_wp2_with (first|((with_reducible refine gate_dst (N:=1) rfl ?_);refine bx (N:=1) (cs:=#[.int .i64 A5,.string A1]) (t:=29) ?_;intro A3 hg w11 hbox hb;have A0:=Aside0.mk (hbox);have A7:=Aside0.mk ((by rw [hg];exact (below_size (tb HB)):w.heap.size≤A3));have A8:=Aside0.mk ((by rw [hg];exact (below_size (tb HB)):w.heap.size≤A3));replace HB:=Aside0.mk (below_step (tb HB) hb);clear hb hbox hg;have hcz12__:=c2_ A0;have hfz12__:=f_ A0)|(go_at_call 105;(try simp only [i64_w,i32_w]);(with_reducible refine (spec_TableOk.calls k A5 A1 false _ A2.out).mono ?_);rintro e w13 ⟨rfl,hb⟩;replace A0:=Aside0.mk (blk_below (g:=A3) (o := .cells #[.int .i64 A5,.string A1] 29 (0,0)) (dr A0) hb);replace HB:=Aside0.mk (below_step (tb HB) hb);(try clear hb);(try clear hb2);(try clear hk);(try clear hi))))
    go_ret
    exact ⟨er,tb HB⟩
def spec_l09Find.l0:Nat→List (S86)→ByteArray→Int→Option (Int)
  | 0,_,_,_=>none
  | k + 1,x0,x1,x5=>if x5 < (x0.length:Int) then (if 0≤x5 then (if ((rd_T86 x0 x5).f0).toList=x1.toList then (some ((rd_T86 x0 x5).f1)) else (spec_l09Find.l0 k x0 x1 (wrap64 (x5 + 1)))) else (none)) else (some (-1))
def spec_l09Find.f (k:Nat) (l0:List (S86)) (a1:ByteArray):Option (Int):=spec_l09Find.l0 k l0 a1 0
set_option maxHeartbeats 8000000 in
set_option maxRecDepth 100000 in
theorem spec_l09Find.calls (k:Nat) (A0:Option Addr) (c0:Nat) (l0:List (S86)) (a1:ByteArray) (r:Int) (w:World) (hr0:Kd.C k86 w A0 l0.length l0) (hc0:l0.length≤c0) (h:spec_l09Find.f k l0 a1=some r) :
    Calls Try.prog 126 #[.slice A0 l0.length c0,.string a1] w fun e w'=>e = .returned (.int .i64 r)∧Drawn0 w w':=by
  have HR0:=Aside0.mk hr0
  have HC0:=Aside0.mk hc0
  clear hr0 hc0
  have H:(spec_l09Find.l0 k l0 a1 0)=some r:=h
  clear h
  have H':=Aside0.mk H
  clear H
  go_enter Try.func126,Try.ntmps126
  go_wp2
  go_loopg [5] k (fun kq v5 w'=>∃ (A1:Int),v5 = .int .i64 A1∧Aside0 (spec_l09Find.l0 kq l0 a1 A1=some r)∧Aside0 (kq≤k)∧Drawn0 w w')
  case atStart=>exact ⟨(0),(by first|rfl|(simp;done)|(simp [*];done)),H',⟨Nat.le_refl _⟩,by repeat (first|exact Drawn0.refl _|apply Drawn0.step)⟩
  case round =>
    clear H'
    try clear c1
    try clear p2
    obtain ⟨A1,rfl,HA,HK1,⟨m1,rfl⟩⟩:=hrel
    cases gk with
    | zero=>exact absurd HA.out (by simp [spec_l09Find.l0])
    | succ k1 =>
      have H:=HA.out
      clear HA
      simp only [spec_l09Find.l0] at H
      by_cases c3:A1 < (l0.length:Int)
      · rw [if_pos c3] at H
        have c3b0:decide (A1 < (l0.length:Int))=true:=decide_eq_true c3
        clear c3
        by_cases c4:0≤A1
        · rw [if_pos c4] at H
          have c4b0:decide (0≤A1)=true:=decide_eq_true c4
          clear c4
          by_cases c5:((rd_T86 l0 A1).f0).toList=a1.toList
          · rw [if_pos c5] at H
            have c5b0:(((rd_T86 l0 A1).f0).toList == a1.toList)=true:=beq_iff_eq.mpr c5
            have c5b1:(((rd_T86 l0 A1).f0).toList != a1.toList)=false:=bne_eq_false_iff_eq.mpr c5
            clear c5
            obtain rfl:=Option.some.inj H
            have p101:0≤(A1:Int):=od
            have q101:A1 < (l0.length:Int):=od
            obtain ⟨ad101,e101,hx101_0,hx101_1⟩:=at_T86 HR0.out A1 p101 q101
            cases e101
            replace p101:=eq_true p101
            replace q101:=eq_true q101
            have p102:0≤(A1:Int):=od
            have q102:A1 < (l0.length:Int):=od
            obtain ⟨ad102,e102,hx102_0,hx102_1⟩:=at_T86 HR0.out A1 p102 q102
            obtain rfl:ad101=ad102:=(by injection e102)
            replace p102:=eq_true p102
            replace q102:=eq_true q102
            go_wp2
            go_ret
            exact ⟨by first|rfl|(simp;done)|(simp [*];done),by repeat (first|exact Drawn0.refl _|apply Drawn0.step)⟩
          · rw [if_neg c5] at H
            have c5b0:(((rd_T86 l0 A1).f0).toList == a1.toList)=false:=beq_eq_false_iff_ne.mpr c5
            have c5b1:(((rd_T86 l0 A1).f0).toList != a1.toList)=true:=bne_iff_ne.mpr c5
            have H':=Aside0.mk H
            clear H
            have p101:0≤(A1:Int):=od
            have q101:A1 < (l0.length:Int):=od
            obtain ⟨ad101,e101,hx101_0,hx101_1⟩:=at_T86 HR0.out A1 p101 q101
            cases e101
            replace p101:=eq_true p101
            replace q101:=eq_true q101
            go_wp2
            go_roundg k1
            case measure=>have:=HK1.out;omega
            case rel=>exact ⟨(wrap64 (A1 + 1)),(by first|rfl|(simp;done)|(simp [*];done)),H',⟨by have:=HK1.out;omega⟩,by repeat (first|exact Drawn0.refl _|apply Drawn0.step)⟩
        · rw [if_neg c4] at H
          exact absurd H (by simp)
      · rw [if_neg c3] at H
        have c3b0:decide (A1 < (l0.length:Int))=false:=decide_eq_false c3
        clear c3
        obtain rfl:=Option.some.inj H
        go_wp2
        go_ret
        exact ⟨by first|rfl|(simp;done)|(simp [*];done),by repeat (first|exact Drawn0.refl _|apply Drawn0.step)⟩
end Go.Proofs.Ytlpfmhikahlcoaa.G
