-- texts of this session, merged by a program of it (wip/gen/pack.py)
import Derived.Test.YtlpfmhikahlcoaaKFnExactMachineStep2
import Derived.Test.YtlpfmhikahlcoaaKFnExactMachineStep6
namespace Go.Proofs.Ytlpfmhikahlcoaa.G
open Go.Proofs.Ytlpfmhikahlcoaa.Sh
open Go.RowKit Go.Proofs.YtlpfmhikahlcoaaW.PrintWords Go.Proofs.YtlpfmhikahlcoaaW.PrintLast Go.Proofs.YtlpfmhikahlcoaaW.PrintMore
attribute [local go_sem] max2_int min2_int max_two min_two max_three min_three max_four min_four
set_option linter.unusedVariables false
set_option linter.unusedSimpArgs false
def laws_szSeenS.l0:Nat→List (S130)→Int→Int→Option (Int)
  | 0,_,_,_=>none
  | k + 1,x0,x1,x5=>if x5 < (x0.length:Int) then (if 0≤x5 then ((laws_szSeen.f ((rd_T130 x0 x5).f0) ((rd_T130 x0 x5).f1) x1).bind fun A2=>(if A2 < 0 then (some (-1)) else (laws_szSeenS.l0 k x0 A2 (wrap64 (x5 + 1))))) else (none)) else (some x1)
def laws_szSeenS.f (k:Nat) (l0:List (S130)) (a1:Int):Option (Int):=if (wrap64 (a1 - (l0.length:Int))) < 0 then (some (-1)) else (laws_szSeenS.l0 k l0 (wrap64 (a1 - (l0.length:Int))) 0)
set_option maxHeartbeats 8000000 in
set_option maxRecDepth 100000 in
theorem laws_szSeenS.calls (k:Nat) (A0:Option Addr) (c0:Nat) (l0:List (S130)) (a1:Int) (r:Int) (w:World) (hr0:Kd.C k130 w A0 l0.length l0) (hc0:l0.length≤c0) (h:laws_szSeenS.f k l0 a1=some r) :
    Calls Try.prog 74 #[.slice A0 l0.length c0,.int .i64 a1] w fun e w'=>e = .returned (.int .i64 r)∧Below w.heap.size w w':=by
  have hu130:=Try.underlying130
  have HR0:=Aside0.mk hr0
  have HC0:=Aside0.mk hc0
  clear hr0 hc0
  have HB:=Aside0.mk (Below.refl w.heap.size w)
  have H:(if (wrap64 (a1 - (l0.length:Int))) < 0 then (some (-1)) else (laws_szSeenS.l0 k l0 (wrap64 (a1 - (l0.length:Int))) 0))=some r:=h
  clear h
  by_cases c3:(wrap64 (a1 - (l0.length:Int))) < 0
  · rw [if_pos c3] at H
    have c3b0:decide ((wrap64 (a1 - (l0.length:Int))) < 0)=true:=decide_eq_true c3
    clear c3
    obtain rfl:=Option.some.inj H
    go_enter Try.func74,Try.ntmps74
    go_wp2
    go_ret
    exact ⟨er,tb HB⟩
  · rw [if_neg c3] at H
    have c3b0:decide ((wrap64 (a1 - (l0.length:Int))) < 0)=false:=decide_eq_false c3
    clear c3
    have H':=Aside0.mk H
    clear H
    go_enter Try.func74,Try.ntmps74
    go_wp2
    go_loopg [1,5] k (fun kq v1 v5 w'=>∃ (A3:Int) (A1:Int),v1 = .int .i64 A3∧v5 = .int .i64 A1∧Aside0 (laws_szSeenS.l0 kq l0 A3 A1=some r)∧Aside0 (kq≤k)∧Aside0 (Below w.heap.size w w'))
    case atStart=>exact ⟨(wrap64 (a1 - (l0.length:Int))),(0),(by first|rfl|(simp;done)|(simp [*];done)),(by first|rfl|(simp;done)|(simp [*];done)),H',⟨Nat.le_refl _⟩,⟨by exact tb HB⟩⟩
    case round =>
      clear H'
      try clear p2
      try clear c3
      try clear c3b0
      obtain ⟨A3,A1,rfl,rfl,HA,HK1,HB⟩:=hrel
      cases gk with
      | zero=>exact absurd HA.out (by simp [laws_szSeenS.l0])
      | succ k1 =>
        have H:=HA.out
        clear HA
        simp only [laws_szSeenS.l0] at H
        by_cases c4:A1 < (l0.length:Int)
        · rw [if_pos c4] at H
          have c4b0:decide (A1 < (l0.length:Int))=true:=decide_eq_true c4
          clear c4
          by_cases c5:0≤A1
          · rw [if_pos c5] at H
            have c5b0:decide (0≤A1)=true:=decide_eq_true c5
            clear c5
            replace H:=Option.bind_eq_some_iff.mp H
            obtain ⟨A2,A60,H⟩:=H
            replace H:(if A2 < 0 then (some (-1)) else (laws_szSeenS.l0 k1 l0 A2 (wrap64 (A1 + 1))))=some r:=H
            have A6:=Aside0.mk A60
            clear A60
            by_cases c7:A2 < 0
            · rw [if_pos c7] at H
              have c7b0:decide (A2 < 0)=true:=decide_eq_true c7
              clear c7
              obtain rfl:=Option.some.inj H
              have p101:0≤(A1:Int):=od
              have q101:A1 < (l0.length:Int):=od
              obtain ⟨ad101,e101,hx101_0,hx101_1⟩:=at_T130 HR0.out A1 p101 q101
              cases e101
              replace hx101_0:=(HB.out.cell (World.block_lt_of_cell? w _ hx101_0)).trans hx101_0
              replace hx101_1:=(HB.out.cell (World.block_lt_of_cell? w _ hx101_1)).trans hx101_1
              replace p101:=eq_true p101
              replace q101:=eq_true q101
              go_wp2_with (first|((with_reducible refine gate_callee (f:=111) rfl ?_);refine goesL_ (some 23) rfl rfl Try.func111 (by kernel_rfl) rfl #[.agg #[.string ((rd_T130 l0 A1).f0),.int .i64 ((rd_T130 l0 A1).f1)],.int .i64 A3] rfl ml ?_;(with_reducible refine (laws_szSeen.calls ((rd_T130 l0 A1).f0) ((rd_T130 l0 A1).f1) A3 A2 _ A6.out).mono ?_);rintro e w8 ⟨rfl,hb⟩;refine ⟨_,rfl,?_⟩;replace HB:=Aside0.mk (below_step (tb HB) hb);(try clear hb);(try clear hb2);(try clear hk);(try clear hi)))
              go_ret
              exact ⟨er,tb HB⟩
            · rw [if_neg c7] at H
              have c7b0:decide (A2 < 0)=false:=decide_eq_false c7
              clear c7
              have H':=Aside0.mk H
              clear H
              have p101:0≤(A1:Int):=od
              have q101:A1 < (l0.length:Int):=od
              obtain ⟨ad101,e101,hx101_0,hx101_1⟩:=at_T130 HR0.out A1 p101 q101
              cases e101
              replace hx101_0:=(HB.out.cell (World.block_lt_of_cell? w _ hx101_0)).trans hx101_0
              replace hx101_1:=(HB.out.cell (World.block_lt_of_cell? w _ hx101_1)).trans hx101_1
              replace p101:=eq_true p101
              replace q101:=eq_true q101
              go_wp2_with (first|((with_reducible refine gate_callee (f:=111) rfl ?_);refine goesL_ (some 23) rfl rfl Try.func111 (by kernel_rfl) rfl #[.agg #[.string ((rd_T130 l0 A1).f0),.int .i64 ((rd_T130 l0 A1).f1)],.int .i64 A3] rfl ml ?_;(with_reducible refine (laws_szSeen.calls ((rd_T130 l0 A1).f0) ((rd_T130 l0 A1).f1) A3 A2 _ A6.out).mono ?_);rintro e w9 ⟨rfl,hb⟩;refine ⟨_,rfl,?_⟩;replace HB:=Aside0.mk (below_step (tb HB) hb);(try clear hb);(try clear hb2);(try clear hk);(try clear hi)))
              go_roundg k1
              case measure=>have:=HK1.out;omega
              case rel=>exact ⟨(A2),(wrap64 (A1 + 1)),(by first|rfl|(simp;done)|(simp [*];done)),(by first|rfl|(simp;done)|(simp [*];done)),H',⟨by have:=HK1.out;omega⟩,⟨by exact tb HB⟩⟩
          · rw [if_neg c5] at H
            exact absurd H (by simp)
        · rw [if_neg c4] at H
          have c4b0:decide (A1 < (l0.length:Int))=false:=decide_eq_false c4
          clear c4
          obtain rfl:=Option.some.inj H
          go_wp2
          go_ret
          exact ⟨er,tb HB⟩
def laws_szTable.f (A3:Int) (A0:ByteArray) (a1:Int):Option (Int):=if (wrap64 (a1 - (A0.size:Int))) < 0 then (some (-1)) else (some (wrap64 (a1 - (A0.size:Int))))
set_option maxHeartbeats 8000000 in
set_option maxRecDepth 100000 in
theorem laws_szTable.calls (A3:Int) (A0:ByteArray) (a1:Int) (r:Int) (w:World) (h:laws_szTable.f A3 A0 a1=some r) :
    Calls Try.prog 15 #[.agg #[.int .i64 A3,.string A0],.int .i64 a1] w fun e w'=>e = .returned (.int .i64 r)∧Below w.heap.size w w':=by
  have hu24:=Try.underlying24
  have HB:=Aside0.mk (Below.refl w.heap.size w)
  have H:(if (wrap64 (a1 - (A0.size:Int))) < 0 then (some (-1)) else (some (wrap64 (a1 - (A0.size:Int)))))=some r:=h
  clear h
  by_cases c3:(wrap64 (a1 - (A0.size:Int))) < 0
  · rw [if_pos c3] at H
    have c3b0:decide ((wrap64 (a1 - (A0.size:Int))) < 0)=true:=decide_eq_true c3
    clear c3
    obtain rfl:=Option.some.inj H
    go_enter Try.func15,Try.ntmps15
    go_wp2_with (first|((with_reducible refine gate_dst (N:=2) rfl ?_);refine bx (N:=2) (cs:=#[.int .i64 A3,.string A0]) (t:=24) ?_;intro A1 hg w4 hbox hb;have A2:=Aside0.mk (hbox);have A4:=Aside0.mk ((by rw [hg];exact (below_size (tb HB)):w.heap.size≤A1));have A5:=Aside0.mk ((by rw [hg];exact (below_size (tb HB)):w.heap.size≤A1));replace HB:=Aside0.mk (below_step (tb HB) hb);clear hb hbox hg;have hcz5__:=c2_ A2;have hfz5__:=f_ A2))
    go_ret
    exact ⟨er,tb HB⟩
  · rw [if_neg c3] at H
    have c3b0:decide ((wrap64 (a1 - (A0.size:Int))) < 0)=false:=decide_eq_false c3
    clear c3
    obtain rfl:=Option.some.inj H
    go_enter Try.func15,Try.ntmps15
    go_wp2_with (first|((with_reducible refine gate_dst (N:=2) rfl ?_);refine bx (N:=2) (cs:=#[.int .i64 A3,.string A0]) (t:=24) ?_;intro A1 hg w6 hbox hb;have A2:=Aside0.mk (hbox);have A4:=Aside0.mk ((by rw [hg];exact (below_size (tb HB)):w.heap.size≤A1));have A5:=Aside0.mk ((by rw [hg];exact (below_size (tb HB)):w.heap.size≤A1));replace HB:=Aside0.mk (below_step (tb HB) hb);clear hb hbox hg;have hcz7__:=c2_ A2;have hfz7__:=f_ A2))
    go_ret
    exact ⟨er,tb HB⟩
end Go.Proofs.Ytlpfmhikahlcoaa.G
namespace Go.Proofs.Ytlpfmhikahlcoaa.G
open Go.Proofs.Ytlpfmhikahlcoaa.Sh Go.RowKit Go.Proofs.YtlpfmhikahlcoaaW.PrintWords Go.Proofs.YtlpfmhikahlcoaaW.PrintLast Go.Proofs.YtlpfmhikahlcoaaW.PrintMore
attribute [local go_sem] max2_int min2_int max_two min_two max_three min_three max_four min_four
set_option linter.unusedVariables false
set_option linter.unusedSimpArgs false
def laws_szMachine.f (k:Nat) (A6:List Bool) (Aa:Int) (Ab:ByteArray) (Aj:Int) (A9:List Int) (Ak:Int) (Al:Bool) (Am:Int) (An:Int) (Ao:Int) (A1:List (S130)) (a1:Int):Option (Int):=(laws_szBoolS.f A6 a1).bind fun A2=>(if A2 < 0 then (some (-1)) else ((laws_szTable.f Aa Ab A2).bind fun A4=>(if A4 < 0 then (some (-1)) else ((laws_szIntS.f A9 A4).bind fun A5=>(if A5 < 0 then (some (-1)) else ((laws_szSeenS.f k A1 A5).bind fun A8=>(if A8 < 0 then (some (-1)) else (some A8))))))))
set_option maxHeartbeats 80000000 in
set_option maxRecDepth 100000 in
theorem laws_szMachine.calls (k:Nat) (Af:Option Addr) (Ag:Nat) (A6:List Bool) (Aa:Int) (Ab:ByteArray) (Aj:Int) (Ah:Option Addr) (Ai:Nat) (A9:List Int) (Ak:Int) (Al:Bool) (Am:Int) (An:Int) (Ao:Int) (Ad:Option Addr) (Ae:Nat) (A1:List (S130)) (a1:Int) (r:Int) (w:World) (hr0_0:Kd.C Kd.bool w Af A6.length A6) (hc0_0:A6.length≤Ag) (hr0_4:Kd.C (Kd.int .i64) w Ah A9.length A9) (hc0_4:A9.length≤Ai) (hr0_10:Kd.C k130 w Ad A1.length A1) (hc0_10:A1.length≤Ae) (h:laws_szMachine.f k A6 Aa Ab Aj A9 Ak Al Am An Ao A1 a1=some r) :
  Calls Try.prog 29 #[.agg #[.slice Af A6.length Ag,.int .i64 Aa,.string Ab,.int .i64 Aj,.slice Ah A9.length Ai,.int .i64 Ak,.bool Al,.int .i64 Am,.int .i64 An,.int .i64 Ao,.slice Ad A1.length Ae],.int .i64 a1] w fun e w'=>e = .returned (.int .i64 r)∧Below w.heap.size w w':=by
 have hu45:=Try.underlying45;have hu24:=Try.underlying24;have Ap:=Aside0.mk hr0_0;have Aq:=Aside0.mk hc0_0;clear hr0_0 hc0_0;have At:=Aside0.mk hr0_4;have Au:=Aside0.mk hc0_4;clear hr0_4 hc0_4;have Av:=Aside0.mk hr0_10;have Aw:=Aside0.mk hc0_10;clear hr0_10 hc0_10;have HB:=Aside0.mk (Below.refl w.heap.size w)
 have H:((laws_szBoolS.f A6 a1).bind fun A2=>(if A2 < 0 then (some (-1)) else ((laws_szTable.f Aa Ab A2).bind fun A4=>(if A4 < 0 then (some (-1)) else ((laws_szIntS.f A9 A4).bind fun A5=>(if A5 < 0 then (some (-1)) else ((laws_szSeenS.f k A1 A5).bind fun A8=>(if A8 < 0 then (some (-1)) else (some A8)))))))))=some r:=h
 clear h
 replace H:=Option.bind_eq_some_iff.mp H
 obtain ⟨A2,A30,H⟩:=H
 replace H:(if A2 < 0 then (some (-1)) else ((laws_szTable.f Aa Ab A2).bind fun A4=>(if A4 < 0 then (some (-1)) else ((laws_szIntS.f A9 A4).bind fun A5=>(if A5 < 0 then (some (-1)) else ((laws_szSeenS.f k A1 A5).bind fun A8=>(if A8 < 0 then (some (-1)) else (some A8))))))))=some r:=H
 have A3:=Aside0.mk A30;clear A30
 by_cases c4:A2 < 0
 ·rw [if_pos c4] at H
  have c4b0:decide (A2 < 0)=true:=decide_eq_true c4;clear c4
  obtain rfl:=Option.some.inj H
  go_enter Try.func29,Try.ntmps29
  go_wp2_with (first|((with_reducible refine gate_dst (N:=2) rfl ?_);refine bx (N:=2) (cs:=#[.slice Af A6.length Ag,.int .i64 Aa,.string Ab,.int .i64 Aj,.slice Ah A9.length Ai,.int .i64 Ak,.bool Al,.int .i64 Am,.int .i64 An,.int .i64 Ao,.slice Ad A1.length Ae]) (t:=45) ?_;intro Ar hg w5 hbox hb;have A0:=Aside0.mk (hbox);have As:=bz0 hg HB;have Ac:=bz0 hg HB;replace HB:=bs0 HB hb;clear hb hbox hg;have hcz6__:=c11_ A0;have hfz6__:=f_ A0)|((with_reducible refine gate_callee (f:=72) rfl ?_);refine goesL_ (some 8) rfl rfl Try.func72 (by kernel_rfl) rfl #[.slice Af A6.length Ag,.int .i64 a1] rfl ml ?_;(with_reducible refine (laws_szBoolS.calls _ _ A6 a1 A2 _ ?side1 ?side2 A3.out).mono ?_);(case side1=>exact cw (Kd.C_below Ap.out HB.out));(case side2=>exact Aq.out);rintro e w' ⟨rfl,⟨nd,rfl⟩⟩;refine ⟨_,rfl,?_⟩))
  go_ret
  exact ⟨er,tb HB⟩
 ·rw [if_neg c4] at H
  have c4b0:decide (A2 < 0)=false:=decide_eq_false c4;clear c4
  replace H:=Option.bind_eq_some_iff.mp H
  obtain ⟨A4,A70,H⟩:=H
  replace H:(if A4 < 0 then (some (-1)) else ((laws_szIntS.f A9 A4).bind fun A5=>(if A5 < 0 then (some (-1)) else ((laws_szSeenS.f k A1 A5).bind fun A8=>(if A8 < 0 then (some (-1)) else (some A8))))))=some r:=H
  have A7:=Aside0.mk A70;clear A70
  by_cases c8:A4 < 0
  ·rw [if_pos c8] at H
   have c8b0:decide (A4 < 0)=true:=decide_eq_true c8;clear c8
   obtain rfl:=Option.some.inj H
   go_enter Try.func29,Try.ntmps29
   go_wp2_with (first|((with_reducible refine gate_dst (N:=2) rfl ?_);refine bx (N:=2) (cs:=#[.slice Af A6.length Ag,.int .i64 Aa,.string Ab,.int .i64 Aj,.slice Ah A9.length Ai,.int .i64 Ak,.bool Al,.int .i64 Am,.int .i64 An,.int .i64 Ao,.slice Ad A1.length Ae]) (t:=45) ?_;intro Ar hg w9 hbox hb;have A0:=Aside0.mk (hbox);have As:=bz0 hg HB;have Ac:=bz0 hg HB;replace HB:=bs0 HB hb;clear hb hbox hg;have hcz10__:=c11_ A0;have hfz10__:=f_ A0)|((with_reducible refine gate_callee (f:=72) rfl ?_);refine goesL_ (some 8) rfl rfl Try.func72 (by kernel_rfl) rfl #[.slice Af A6.length Ag,.int .i64 a1] rfl ml ?_;(with_reducible refine (laws_szBoolS.calls _ _ A6 a1 A2 _ ?side1 ?side2 A3.out).mono ?_);(case side1=>exact cw (Kd.C_below Ap.out HB.out));(case side2=>exact Aq.out);rintro e w' ⟨rfl,⟨nd,rfl⟩⟩;refine ⟨_,rfl,?_⟩)|((with_reducible refine gate_callee (f:=15) rfl ?_);refine goesL_ (some 14) rfl rfl Try.func15 (by kernel_rfl) rfl #[.agg #[.int .i64 Aa,.string Ab],.int .i64 A2] rfl ml ?_;(with_reducible refine (laws_szTable.calls Aa Ab A2 A4 _ A7.out).mono ?_);rintro e w11 ⟨rfl,hb⟩;refine ⟨_,rfl,?_⟩;replace A0:=bb A0 hb;replace HB:=bs1 HB hb Ac;(try clear hb);(try clear hb2);(try clear hk);(try clear hi)))
   go_ret
   exact ⟨er,tb HB⟩
  ·rw [if_neg c8] at H
   have c8b0:decide (A4 < 0)=false:=decide_eq_false c8;clear c8
   replace H:=Option.bind_eq_some_iff.mp H
   obtain ⟨A5,A120,H⟩:=H
   replace H:(if A5 < 0 then (some (-1)) else ((laws_szSeenS.f k A1 A5).bind fun A8=>(if A8 < 0 then (some (-1)) else (some A8))))=some r:=H
   have A12:=Aside0.mk A120;clear A120
   by_cases c13:A5 < 0
   ·rw [if_pos c13] at H
    have c13b0:decide (A5 < 0)=true:=decide_eq_true c13;clear c13
    obtain rfl:=Option.some.inj H
    go_enter Try.func29,Try.ntmps29
    go_wp2_with (first|((with_reducible refine gate_dst (N:=2) rfl ?_);refine bx (N:=2) (cs:=#[.slice Af A6.length Ag,.int .i64 Aa,.string Ab,.int .i64 Aj,.slice Ah A9.length Ai,.int .i64 Ak,.bool Al,.int .i64 Am,.int .i64 An,.int .i64 Ao,.slice Ad A1.length Ae]) (t:=45) ?_;intro Ar hg w14 hbox hb;have A0:=Aside0.mk (hbox);have As:=bz0 hg HB;have Ac:=bz0 hg HB;replace HB:=bs0 HB hb;clear hb hbox hg;have hcz15__:=c11_ A0;have hfz15__:=f_ A0)|((with_reducible refine gate_callee (f:=72) rfl ?_);refine goesL_ (some 8) rfl rfl Try.func72 (by kernel_rfl) rfl #[.slice Af A6.length Ag,.int .i64 a1] rfl ml ?_;(with_reducible refine (laws_szBoolS.calls _ _ A6 a1 A2 _ ?side1 ?side2 A3.out).mono ?_);(case side1=>exact cw (Kd.C_below Ap.out HB.out));(case side2=>exact Aq.out);rintro e w' ⟨rfl,⟨nd,rfl⟩⟩;refine ⟨_,rfl,?_⟩)|((with_reducible refine gate_callee (f:=15) rfl ?_);refine goesL_ (some 14) rfl rfl Try.func15 (by kernel_rfl) rfl #[.agg #[.int .i64 Aa,.string Ab],.int .i64 A2] rfl ml ?_;(with_reducible refine (laws_szTable.calls Aa Ab A2 A4 _ A7.out).mono ?_);rintro e w16 ⟨rfl,hb⟩;refine ⟨_,rfl,?_⟩;replace A0:=bb A0 hb;replace HB:=bs1 HB hb Ac;(try clear hb);(try clear hb2);(try clear hk);(try clear hi);have hcz17__:=c11_ A0;have hfz17__:=f_ A0)|((with_reducible refine gate_callee (f:=73) rfl ?_);refine goesL_ (some 20) rfl rfl Try.func73 (by kernel_rfl) rfl #[.slice Ah A9.length Ai,.int .i64 A4] rfl ml ?_;(with_reducible refine (laws_szIntS.calls _ _ A9 A4 A5 _ ?side1 ?side2 A12.out).mono ?_);(case side1=>exact cw (Kd.C_below At.out HB.out));(case side2=>exact Au.out);rintro e w' ⟨rfl,⟨nd,rfl⟩⟩;refine ⟨_,rfl,?_⟩))
    go_ret
    exact ⟨er,tb HB⟩
   ·rw [if_neg c13] at H
    have c13b0:decide (A5 < 0)=false:=decide_eq_false c13;clear c13
    replace H:=Option.bind_eq_some_iff.mp H
    obtain ⟨A8,A180,H⟩:=H
    replace H:(if A8 < 0 then (some (-1)) else (some A8))=some r:=H
    have A18:=Aside0.mk A180;clear A180
    by_cases c19:A8 < 0
    ·rw [if_pos c19] at H
     have c19b0:decide (A8 < 0)=true:=decide_eq_true c19;clear c19
     obtain rfl:=Option.some.inj H
     go_enter Try.func29,Try.ntmps29
     go_wp2_with (first|((with_reducible refine gate_dst (N:=2) rfl ?_);refine bx (N:=2) (cs:=#[.slice Af A6.length Ag,.int .i64 Aa,.string Ab,.int .i64 Aj,.slice Ah A9.length Ai,.int .i64 Ak,.bool Al,.int .i64 Am,.int .i64 An,.int .i64 Ao,.slice Ad A1.length Ae]) (t:=45) ?_;intro Ar hg w20 hbox hb;have A0:=Aside0.mk (hbox);have As:=bz0 hg HB;have Ac:=bz0 hg HB;replace HB:=bs0 HB hb;clear hb hbox hg;have hcz21__:=c11_ A0;have hfz21__:=f_ A0)|((with_reducible refine gate_callee (f:=72) rfl ?_);refine goesL_ (some 8) rfl rfl Try.func72 (by kernel_rfl) rfl #[.slice Af A6.length Ag,.int .i64 a1] rfl ml ?_;(with_reducible refine (laws_szBoolS.calls _ _ A6 a1 A2 _ ?side1 ?side2 A3.out).mono ?_);(case side1=>exact cw (Kd.C_below Ap.out HB.out));(case side2=>exact Aq.out);rintro e w' ⟨rfl,⟨nd,rfl⟩⟩;refine ⟨_,rfl,?_⟩)|((with_reducible refine gate_callee (f:=15) rfl ?_);refine goesL_ (some 14) rfl rfl Try.func15 (by kernel_rfl) rfl #[.agg #[.int .i64 Aa,.string Ab],.int .i64 A2] rfl ml ?_;(with_reducible refine (laws_szTable.calls Aa Ab A2 A4 _ A7.out).mono ?_);rintro e w22 ⟨rfl,hb⟩;refine ⟨_,rfl,?_⟩;replace A0:=bb A0 hb;replace HB:=bs1 HB hb Ac;(try clear hb);(try clear hb2);(try clear hk);(try clear hi);have hcz23__:=c11_ A0;have hfz23__:=f_ A0)|((with_reducible refine gate_callee (f:=73) rfl ?_);refine goesL_ (some 20) rfl rfl Try.func73 (by kernel_rfl) rfl #[.slice Ah A9.length Ai,.int .i64 A4] rfl ml ?_;(with_reducible refine (laws_szIntS.calls _ _ A9 A4 A5 _ ?side1 ?side2 A12.out).mono ?_);(case side1=>exact cw (Kd.C_below At.out HB.out));(case side2=>exact Au.out);rintro e w' ⟨rfl,⟨nd,rfl⟩⟩;refine ⟨_,rfl,?_⟩)|((with_reducible refine gate_callee (f:=74) rfl ?_);refine goesL_ (some 26) rfl rfl Try.func74 (by kernel_rfl) rfl #[.slice Ad A1.length Ae,.int .i64 A5] rfl ml ?_;(with_reducible refine (laws_szSeenS.calls k _ _ A1 A5 A8 _ ?side1 ?side2 A18.out).mono ?_);(case side1=>repeat (first|exact (Kd.C_below Av.out (tb HB))|(with_reducible refine Kd.C_alloc ?_ _)|(with_reducible refine Kd.C_drewN ?_ _)|(with_reducible refine Kd.C_drew ?_)));(case side2=>exact Aw.out);rintro e w24 ⟨rfl,hb⟩;refine ⟨_,rfl,?_⟩;replace A0:=bb A0 hb;replace HB:=bs1 HB hb Ac;(try clear hb);(try clear hb2);(try clear hk);(try clear hi)))
     go_ret
     exact ⟨er,tb HB⟩
    ·rw [if_neg c19] at H
     have c19b0:decide (A8 < 0)=false:=decide_eq_false c19;clear c19
     obtain rfl:=Option.some.inj H
     go_enter Try.func29,Try.ntmps29
     go_wp2_with (first|((with_reducible refine gate_dst (N:=2) rfl ?_);refine bx (N:=2) (cs:=#[.slice Af A6.length Ag,.int .i64 Aa,.string Ab,.int .i64 Aj,.slice Ah A9.length Ai,.int .i64 Ak,.bool Al,.int .i64 Am,.int .i64 An,.int .i64 Ao,.slice Ad A1.length Ae]) (t:=45) ?_;intro Ar hg w25 hbox hb;have A0:=Aside0.mk (hbox);have As:=bz0 hg HB;have Ac:=bz0 hg HB;replace HB:=bs0 HB hb;clear hb hbox hg;have hcz26__:=c11_ A0;have hfz26__:=f_ A0)|((with_reducible refine gate_callee (f:=72) rfl ?_);refine goesL_ (some 8) rfl rfl Try.func72 (by kernel_rfl) rfl #[.slice Af A6.length Ag,.int .i64 a1] rfl ml ?_;(with_reducible refine (laws_szBoolS.calls _ _ A6 a1 A2 _ ?side1 ?side2 A3.out).mono ?_);(case side1=>exact cw (Kd.C_below Ap.out HB.out));(case side2=>exact Aq.out);rintro e w' ⟨rfl,⟨nd,rfl⟩⟩;refine ⟨_,rfl,?_⟩)|((with_reducible refine gate_callee (f:=15) rfl ?_);refine goesL_ (some 14) rfl rfl Try.func15 (by kernel_rfl) rfl #[.agg #[.int .i64 Aa,.string Ab],.int .i64 A2] rfl ml ?_;(with_reducible refine (laws_szTable.calls Aa Ab A2 A4 _ A7.out).mono ?_);rintro e w27 ⟨rfl,hb⟩;refine ⟨_,rfl,?_⟩;replace A0:=bb A0 hb;replace HB:=bs1 HB hb Ac;(try clear hb);(try clear hb2);(try clear hk);(try clear hi);have hcz28__:=c11_ A0;have hfz28__:=f_ A0)|((with_reducible refine gate_callee (f:=73) rfl ?_);refine goesL_ (some 20) rfl rfl Try.func73 (by kernel_rfl) rfl #[.slice Ah A9.length Ai,.int .i64 A4] rfl ml ?_;(with_reducible refine (laws_szIntS.calls _ _ A9 A4 A5 _ ?side1 ?side2 A12.out).mono ?_);(case side1=>exact cw (Kd.C_below At.out HB.out));(case side2=>exact Au.out);rintro e w' ⟨rfl,⟨nd,rfl⟩⟩;refine ⟨_,rfl,?_⟩)|((with_reducible refine gate_callee (f:=74) rfl ?_);refine goesL_ (some 26) rfl rfl Try.func74 (by kernel_rfl) rfl #[.slice Ad A1.length Ae,.int .i64 A5] rfl ml ?_;(with_reducible refine (laws_szSeenS.calls k _ _ A1 A5 A8 _ ?side1 ?side2 A18.out).mono ?_);(case side1=>repeat (first|exact (Kd.C_below Av.out (tb HB))|(with_reducible refine Kd.C_alloc ?_ _)|(with_reducible refine Kd.C_drewN ?_ _)|(with_reducible refine Kd.C_drew ?_)));(case side2=>exact Aw.out);rintro e w29 ⟨rfl,hb⟩;refine ⟨_,rfl,?_⟩;replace A0:=bb A0 hb;replace HB:=bs1 HB hb Ac;(try clear hb);(try clear hb2);(try clear hk);(try clear hi)))
     go_ret
     exact ⟨er,tb HB⟩
end Go.Proofs.Ytlpfmhikahlcoaa.G
namespace Go.Proofs.Ytlpfmhikahlcoaa.G
open Go.Proofs.Ytlpfmhikahlcoaa.Sh
open Go.RowKit Go.Proofs.YtlpfmhikahlcoaaW.PrintWords Go.Proofs.YtlpfmhikahlcoaaW.PrintLast Go.Proofs.YtlpfmhikahlcoaaW.PrintMore
attribute [local go_sem] max2_int min2_int max_two min_two max_three min_three max_four min_four
set_option linter.unusedVariables false
set_option linter.unusedSimpArgs false
def laws_toBoolS.l0:Nat→List Bool→List Bool→Int→Option (List Bool)
  | 0,_,_,_=>none
  | k + 1,x0,x3,x4=>if x4 < (x0.length:Int) then (if 0≤x4 then (if x4 < (x3.length:Int) then (laws_toBoolS.l0 k x0 (x3.set (x4:Int).toNat (rdOf false x0 x4)) (wrap64 (x4 + 1))) else (none)) else (none)) else (some x3)
def laws_toBoolS.f (k:Nat) (l0:List Bool):Option (List Bool):=if 0≤(l0.length:Int) then (if ((l0.length:Int):Int).toNat≤281474976710656 then (laws_toBoolS.l0 k l0 (List.replicate ((l0.length:Int):Int).toNat false) 0) else (none)) else (none)
set_option maxHeartbeats 8000000 in
set_option maxRecDepth 100000 in
theorem laws_toBoolS.calls (k:Nat) (A0:Option Addr) (c0:Nat) (l0:List Bool) (r:List Bool) (w:World) (hr0:Kd.C Kd.bool w A0 l0.length l0) (hc0:l0.length≤c0) (h:laws_toBoolS.f k l0=some r) :
    Calls Try.prog 17 #[.slice A0 l0.length c0] w fun e w'=>∃ v0_:Value,e = .returned (v0_)∧Kd.R Kd.bool 4 w' w.heap.size (fun _=>True) v0_ r∧Below w.heap.size w w':=by
  have HR0:=Aside0.mk hr0
  have HC0:=Aside0.mk hc0
  clear hr0 hc0
  have HB:=Aside0.mk (Below.refl w.heap.size w)
  have H:(if 0≤(l0.length:Int) then (if ((l0.length:Int):Int).toNat≤281474976710656 then (laws_toBoolS.l0 k l0 (List.replicate ((l0.length:Int):Int).toNat false) 0) else (none)) else (none))=some r:=h
  clear h
  by_cases c2:0≤(l0.length:Int)
  · rw [if_pos c2] at H
    have c2b0:=eq_true c2
    have c2b1:decide (0≤(l0.length:Int))=true:=decide_eq_true c2
    clear c2
    by_cases c3:((l0.length:Int):Int).toNat≤281474976710656
    · rw [if_pos c3] at H
      have c3b0:=eq_true c3
      have c3b1:decide (((l0.length:Int):Int).toNat≤281474976710656)=true:=decide_eq_true c3
      clear c3
      obtain ⟨y101,hy101⟩:∃ y_:List Bool,y_=(List.replicate ((l0.length:Int):Int).toNat false):=⟨_,rfl⟩
      replace H:(laws_toBoolS.l0 k l0 y101 0)=some r:=by first|(rw [hy101];with_reducible exact H)|(have H2_:=(Option.bind_some _ _).symm.trans H;rw [hy101];with_reducible exact H2_)|(have H2_:=(Option.bind_some _ _).symm.trans H;with_reducible exact H2_)|with_reducible exact H|(rw [hy101];exact H)|exact H
      have Ny101:=Aside0.mk hy101
      clear hy101
      have H':=Aside0.mk H
      clear H
      go_enter Try.func17,Try.ntmps17
      go_wp2_with (first|((with_reducible refine gate_dst (N:=7) rfl ?_);refine Kd.R_make Kd.bool _ 4 rfl (N:=7) rfl 22 _ _ rfl (l0.length:Int) rfl rfl Try.underlying22 (.bool false) 1 info4 rfl (by decide) (by omega) false (ok:=fun _=>True) (okp:=fun _=>True) rfl (fun _ hk=>hk) trivial (od) (Nat.le_trans (Nat.mul_le_mul_right _ (od:(l0.length:Int).toNat≤281474976710656)) (by omega)) (Below.refl _ _) (Nat.le_refl _) ?_;intro v102 w4 ho5 hb hg_ hnew_;clear hg_ hnew_;(first|rw [← Ny101.out] at ho5|(simp only [Int.reduceToNat] at ho5;rw [← Ny101.out] at ho5));have A4:=Aside0.mk (Kd.R_lower ho5 (below_size (tb HB)));replace HB:=Aside0.mk (below_step (tb HB) hb);clear hb ho5))
      go_loopg [4] k (fun kq v4 w'=>∃ (A2:List Bool) (A1:Int),v4 = .int .i64 A1∧Aside0 (laws_toBoolS.l0 kq l0 A2 A1=some r)∧Aside0 (kq≤k)∧Aside0 (Kd.R Kd.bool 4 w' w.heap.size (fun _=>True) v102 A2)∧Aside0 (Below w.heap.size w w'))
      case atStart=>exact ⟨(y101),(0),(by first|rfl|(simp;done)|(simp [*];done)),H',⟨Nat.le_refl _⟩,⟨ra A4⟩,⟨by exact tb HB⟩⟩
      case round =>
        clear H'
        try clear c1
        try clear c2
        try clear c2b0
        try clear c2b1
        try clear p2
        try clear c3
        try clear c3b0
        try clear c3b1
        obtain ⟨A2,A1,rfl,HA,HK1,A3,HB⟩:=hrel
        cases gk with
        | zero=>exact absurd HA.out (by simp [laws_toBoolS.l0])
        | succ k1 =>
          have H:=HA.out
          clear HA
          simp only [laws_toBoolS.l0] at H
          by_cases c6:A1 < (l0.length:Int)
          · rw [if_pos c6] at H
            have c6b0:decide (A1 < (l0.length:Int))=true:=decide_eq_true c6
            clear c6
            by_cases c7:0≤A1
            · rw [if_pos c7] at H
              have c7b0:decide (0≤A1)=true:=decide_eq_true c7
              clear c7
              by_cases c8:A1 < (A2.length:Int)
              · rw [if_pos c8] at H
                have c8b0:decide (A1 < (A2.length:Int))=true:=decide_eq_true c8
                clear c8
                obtain ⟨y105,hy105⟩:∃ y_:List Bool,y_=(A2.set (A1:Int).toNat (rdOf false l0 A1)):=⟨_,rfl⟩
                replace H:(laws_toBoolS.l0 k1 l0 y105 (wrap64 (A1 + 1)))=some r:=by first|(rw [hy105];with_reducible exact H)|(have H2_:=(Option.bind_some _ _).symm.trans H;rw [hy105];with_reducible exact H2_)|(have H2_:=(Option.bind_some _ _).symm.trans H;with_reducible exact H2_)|with_reducible exact H|(rw [hy105];exact H)|exact H
                have Ny105:=Aside0.mk hy105
                clear hy105
                have H':=Aside0.mk H
                clear H
                have p104:0≤(A1:Int):=od
                have q104:A1 < (l0.length:Int):=od
                obtain ⟨ad104,e104,hx104_0⟩:=Kd.at_bool HR0.out A1 p104 q104
                cases e104
                replace hx104_0:=(HB.out.cell (World.block_lt_of_cell? w _ hx104_0)).trans hx104_0
                replace p104:=eq_true p104
                replace q104:=eq_true q104
                have p9:0≤(A1:Int):=od
                have q9:(A1:Int) < ((A2.length:Int):Int):=od
                obtain ⟨go9,co9,eo9,gb9,gl9,cl9,HG9⟩:=Kd.R_form A3.out (by omega)
                (first|cases eo9|(injection eo9 with ea_ en_ ec_;(first|subst ea_|(injection ea_ with ea_;subst ea_));subst ec_;clear en_))
                have GB9:=Aside0.mk gb9
                have GG9:=Aside0.mk HG9
                clear gb9 gl9 HG9
                obtain ⟨hx9_0,hf9_0⟩:=Kd.R_celln false A3.out (A1:Int) p9 q9
                replace p9:=eq_true p9
                replace q9:=eq_true q9
                have HP10:=Kd.R_putg A3.out (A1:Int) (rdOf false l0 A1)
                go_wp2_with (first|((with_reducible refine gate_store (t:=4) (p:=20) rfl ?_);refine store_event (t:=4) (p:=20) (v:=?vo_w11) (w1:=(wr.setCell ⟨go9,(A1:Int).toNat,none⟩ (.bool (rdOf false l0 A1)))) ?hg ?ho ?hn ?hr ?_;(case ho=>rfl);(case hg=>rfl);(case hn=>rfl);(case hr=>first|(go_simp;done)|(go_simp;rfl));intro w11 hw;have hg:wr.grownBy w11 (some go9):=(by rw [hw];exact HP10.2);have hp_:Kd.R Kd.bool 4 w11 w.heap.size (fun _=>True) (.slice (some ⟨go9,0,none⟩) A2.length co9) y105:=(by rw [hw,Ny105.out];exact HP10.1);clear HP10;replace A3:=Aside0.mk (hp_);replace HB:=Aside0.mk ((by rw [hw];exact below_set (HB.out) GB9.out:Below w.heap.size w w11));clear hg hw hp_))
                go_roundg k1
                case measure=>have:=HK1.out;omega
                case rel=>exact ⟨(y105),(wrap64 (A1 + 1)),(by first|rfl|(simp;done)|(simp [*];done)),H',⟨by have:=HK1.out;omega⟩,⟨ra A3⟩,⟨by exact tb HB⟩⟩
              · rw [if_neg c8] at H
                exact absurd H (by simp)
            · rw [if_neg c7] at H
              exact absurd H (by simp)
          · rw [if_neg c6] at H
            have c6b0:decide (A1 < (l0.length:Int))=false:=decide_eq_false c6
            clear c6
            obtain rfl:=Option.some.inj H
            go_wp2
            go_ret
            exact ⟨_,er,ra A3,tb HB⟩
    · rw [if_neg c3] at H
      exact absurd H (by simp)
  · rw [if_neg c2] at H
    exact absurd H (by simp)
def laws_toIntS.l0:Nat→List Int→List Int→Int→Option (List Int)
  | 0,_,_,_=>none
  | k + 1,x0,x3,x4=>if x4 < (x0.length:Int) then (if 0≤x4 then (if x4 < (x3.length:Int) then (laws_toIntS.l0 k x0 (x3.set (x4:Int).toNat (rd x0 x4)) (wrap64 (x4 + 1))) else (none)) else (none)) else (some x3)
def laws_toIntS.f (k:Nat) (l0:List Int):Option (List Int):=if 0≤(l0.length:Int) then (if ((l0.length:Int):Int).toNat≤35184372088832 then (laws_toIntS.l0 k l0 (List.replicate ((l0.length:Int):Int).toNat 0) 0) else (none)) else (none)
set_option maxHeartbeats 8000000 in
set_option maxRecDepth 100000 in
theorem laws_toIntS.calls (k:Nat) (A0:Option Addr) (c0:Nat) (l0:List Int) (r:List Int) (w:World) (hr0:Kd.C (Kd.int .i64) w A0 l0.length l0) (hc0:l0.length≤c0) (h:laws_toIntS.f k l0=some r) :
    Calls Try.prog 75 #[.slice A0 l0.length c0] w fun e w'=>∃ v0_:Value,e = .returned (v0_)∧Kd.R (Kd.int .i64) 3 w' w.heap.size (fun _=>True) v0_ r∧Below w.heap.size w w':=by
  have HR0:=Aside0.mk hr0
  have HC0:=Aside0.mk hc0
  clear hr0 hc0
  have HB:=Aside0.mk (Below.refl w.heap.size w)
  have H:(if 0≤(l0.length:Int) then (if ((l0.length:Int):Int).toNat≤35184372088832 then (laws_toIntS.l0 k l0 (List.replicate ((l0.length:Int):Int).toNat 0) 0) else (none)) else (none))=some r:=h
  clear h
  by_cases c2:0≤(l0.length:Int)
  · rw [if_pos c2] at H
    have c2b0:=eq_true c2
    have c2b1:decide (0≤(l0.length:Int))=true:=decide_eq_true c2
    clear c2
    by_cases c3:((l0.length:Int):Int).toNat≤35184372088832
    · rw [if_pos c3] at H
      have c3b0:=eq_true c3
      have c3b1:decide (((l0.length:Int):Int).toNat≤35184372088832)=true:=decide_eq_true c3
      clear c3
      obtain ⟨y101,hy101⟩:∃ y_:List Int,y_=(List.replicate ((l0.length:Int):Int).toNat 0):=⟨_,rfl⟩
      replace H:(laws_toIntS.l0 k l0 y101 0)=some r:=by first|(rw [hy101];with_reducible exact H)|(have H2_:=(Option.bind_some _ _).symm.trans H;rw [hy101];with_reducible exact H2_)|(have H2_:=(Option.bind_some _ _).symm.trans H;with_reducible exact H2_)|with_reducible exact H|(rw [hy101];exact H)|exact H
      have Ny101:=Aside0.mk hy101
      clear hy101
      have H':=Aside0.mk H
      clear H
      go_enter Try.func75,Try.ntmps75
      go_wp2_with (first|((with_reducible refine gate_dst (N:=7) rfl ?_);refine Kd.R_make (Kd.int .i64) _ 3 rfl (N:=7) rfl 33 _ _ rfl (l0.length:Int) rfl rfl Try.underlying33 (.int .i64 0) 8 info3 rfl (by decide) (by omega) 0 (ok:=fun _=>True) (okp:=fun _=>True) rfl (fun _ hk=>hk) trivial (od) (Nat.le_trans (Nat.mul_le_mul_right _ (od:(l0.length:Int).toNat≤35184372088832)) (by omega)) (Below.refl _ _) (Nat.le_refl _) ?_;intro v102 w4 ho5 hb hg_ hnew_;clear hg_ hnew_;(first|rw [← Ny101.out] at ho5|(simp only [Int.reduceToNat] at ho5;rw [← Ny101.out] at ho5));have A4:=Aside0.mk (Kd.R_lower ho5 (below_size (tb HB)));replace HB:=Aside0.mk (below_step (tb HB) hb);clear hb ho5))
      go_loopg [4] k (fun kq v4 w'=>∃ (A2:List Int) (A1:Int),v4 = .int .i64 A1∧Aside0 (laws_toIntS.l0 kq l0 A2 A1=some r)∧Aside0 (kq≤k)∧Aside0 (Kd.R (Kd.int .i64) 3 w' w.heap.size (fun _=>True) v102 A2)∧Aside0 (Below w.heap.size w w'))
      case atStart=>exact ⟨(y101),(0),(by first|rfl|(simp;done)|(simp [*];done)),H',⟨Nat.le_refl _⟩,⟨ra A4⟩,⟨by exact tb HB⟩⟩
      case round =>
        clear H'
        try clear c2
        try clear c2b0
        try clear c2b1
        try clear p2
        try clear c3
        try clear c3b0
        try clear c3b1
        obtain ⟨A2,A1,rfl,HA,HK1,A3,HB⟩:=hrel
        cases gk with
        | zero=>exact absurd HA.out (by simp [laws_toIntS.l0])
        | succ k1 =>
          have H:=HA.out
          clear HA
          simp only [laws_toIntS.l0] at H
          by_cases c6:A1 < (l0.length:Int)
          · rw [if_pos c6] at H
            have c6b0:decide (A1 < (l0.length:Int))=true:=decide_eq_true c6
            clear c6
            by_cases c7:0≤A1
            · rw [if_pos c7] at H
              have c7b0:decide (0≤A1)=true:=decide_eq_true c7
              clear c7
              by_cases c8:A1 < (A2.length:Int)
              · rw [if_pos c8] at H
                have c8b0:decide (A1 < (A2.length:Int))=true:=decide_eq_true c8
                clear c8
                obtain ⟨y105,hy105⟩:∃ y_:List Int,y_=(A2.set (A1:Int).toNat (rd l0 A1)):=⟨_,rfl⟩
                replace H:(laws_toIntS.l0 k1 l0 y105 (wrap64 (A1 + 1)))=some r:=by first|(rw [hy105];with_reducible exact H)|(have H2_:=(Option.bind_some _ _).symm.trans H;rw [hy105];with_reducible exact H2_)|(have H2_:=(Option.bind_some _ _).symm.trans H;with_reducible exact H2_)|with_reducible exact H|(rw [hy105];exact H)|exact H
                have Ny105:=Aside0.mk hy105
                clear hy105
                have H':=Aside0.mk H
                clear H
                have p104:0≤(A1:Int):=od
                have q104:A1 < (l0.length:Int):=od
                obtain ⟨ad104,e104,hx104_0⟩:=Kd.at_int HR0.out A1 p104 q104
                cases e104
                replace hx104_0:=(HB.out.cell (World.block_lt_of_cell? w _ hx104_0)).trans hx104_0
                replace p104:=eq_true p104
                replace q104:=eq_true q104
                have p9:0≤(A1:Int):=od
                have q9:(A1:Int) < ((A2.length:Int):Int):=od
                obtain ⟨go9,co9,eo9,gb9,gl9,cl9,HG9⟩:=Kd.R_form A3.out (by omega)
                (first|cases eo9|(injection eo9 with ea_ en_ ec_;(first|subst ea_|(injection ea_ with ea_;subst ea_));subst ec_;clear en_))
                have GB9:=Aside0.mk gb9
                have GG9:=Aside0.mk HG9
                clear gb9 gl9 HG9
                obtain ⟨hx9_0,hf9_0⟩:=Kd.R_celln 0 A3.out (A1:Int) p9 q9
                replace p9:=eq_true p9
                replace q9:=eq_true q9
                have HP10:=Kd.R_putg A3.out (A1:Int) (rd l0 A1)
                go_wp2_with (first|((with_reducible refine gate_store (t:=3) (p:=20) rfl ?_);refine store_event (t:=3) (p:=20) (v:=?vo_w11) (w1:=(wr.setCell ⟨go9,(A1:Int).toNat,none⟩ (.int .i64 (rd l0 A1)))) ?hg ?ho ?hn ?hr ?_;(case ho=>rfl);(case hg=>rfl);(case hn=>rfl);(case hr=>first|(go_simp;done)|(go_simp;rfl));intro w11 hw;have hg:wr.grownBy w11 (some go9):=(by rw [hw];exact HP10.2);have hp_:Kd.R (Kd.int .i64) 3 w11 w.heap.size (fun _=>True) (.slice (some ⟨go9,0,none⟩) A2.length co9) y105:=(by rw [hw,Ny105.out];exact HP10.1);clear HP10;replace A3:=Aside0.mk (hp_);replace HB:=Aside0.mk ((by rw [hw];exact below_set (HB.out) GB9.out:Below w.heap.size w w11));clear hg hw hp_))
                go_roundg k1
                case measure=>have:=HK1.out;omega
                case rel=>exact ⟨(y105),(wrap64 (A1 + 1)),(by first|rfl|(simp;done)|(simp [*];done)),H',⟨by have:=HK1.out;omega⟩,⟨ra A3⟩,⟨by exact tb HB⟩⟩
              · rw [if_neg c8] at H
                exact absurd H (by simp)
            · rw [if_neg c7] at H
              exact absurd H (by simp)
          · rw [if_neg c6] at H
            have c6b0:decide (A1 < (l0.length:Int))=false:=decide_eq_false c6
            clear c6
            obtain rfl:=Option.some.inj H
            go_wp2
            go_ret
            exact ⟨_,er,ra A3,tb HB⟩
    · rw [if_neg c3] at H
      exact absurd H (by simp)
  · rw [if_neg c2] at H
    exact absurd H (by simp)
def laws_toSeen.f (A3:ByteArray) (A4:Int):Option (ByteArray × Int):=some (A3,A4)
set_option maxHeartbeats 8000000 in
set_option maxRecDepth 100000 in
theorem laws_toSeen.calls (A3:ByteArray) (A4:Int) (r1:ByteArray) (r2:Int) (w:World) (h:laws_toSeen.f A3 A4=some (r1,r2)) :
    Calls Try.prog 112 #[.agg #[.string A3,.int .i64 A4]] w fun e w'=>e = .returned (.agg #[.string r1,.int .i64 r2])∧Below w.heap.size w w':=by
  have hu130:=Try.underlying130
  have hu86:=Try.underlying86
  have HB:=Aside0.mk (Below.refl w.heap.size w)
  have H:(some (A3,A4))=some (r1,r2):=h
  clear h
  simp only [Option.some.injEq,Prod.mk.injEq] at H
  obtain ⟨rfl,rfl⟩:=H
  go_enter Try.func112,Try.ntmps112
  go_wp2_with (first|((with_reducible refine gate_dst (N:=1) rfl ?_);refine bx (N:=1) (cs:=#[.string A3,.int .i64 A4]) (t:=130) ?_;intro A0 hg w2 hbox hb;have A1:=Aside0.mk (hbox);have GW101:=Aside0.mk ((by rw [hg];exact (below_size (tb HB)):w.heap.size≤A0));have GE101:=Aside0.mk ((by rw [hg];exact (below_size (tb HB)):w.heap.size≤A0));replace HB:=Aside0.mk (below_step (tb HB) hb);clear hb hbox hg)|((with_reducible refine gate_dst (N:=2) rfl ?_);refine bx (N:=2) (cs:=#[.string (⟨#[]⟩:ByteArray),.int .i64 0]) (t:=86) ?_;intro A2 hg w3 hbox hb;have A6:=Aside0.mk (hbox);have GW102:=Aside0.mk ((by rw [hg];exact (below_size (tb HB)):w.heap.size≤A2));have GE102:=Aside0.mk ((by rw [hg];exact (below_size (tb HB)):w.heap.size≤A2));replace HB:=Aside0.mk (below_step (tb HB) hb);have A8:=Aside0.mk ((by rw [hg];exact Nat.ne_of_lt (blk_lt (g:=A0) (o := .cells #[.string A3,.int .i64 A4] 130 (0,0)) (dr A1)):A0≠A2));have A9:=Aside0.mk ((by rw [hg];exact Nat.ne_of_gt (blk_lt (g:=A0) (o := .cells #[.string A3,.int .i64 A4] 130 (0,0)) (dr A1)):A2≠A0));replace A1:=Aside0.mk (blk_below (g:=A0) (o := .cells #[.string A3,.int .i64 A4] 130 (0,0)) (dr A1) hb);clear hb hbox hg)|((with_reducible refine gate_dst (N:=3) rfl ?_);refine bx (N:=3) (cs:=#[.string (⟨#[]⟩:ByteArray),.int .i64 0]) (t:=86) ?_;intro A7 hg w4 hbox hb;have Ad:=Aside0.mk (hbox);have GW103:=Aside0.mk ((by rw [hg];exact (below_size (tb HB)):w.heap.size≤A7));have GE103:=Aside0.mk ((by rw [hg];exact (below_size (tb HB)):w.heap.size≤A7));replace HB:=Aside0.mk (below_step (tb HB) hb);have Aa:=Aside0.mk ((by rw [hg];exact Nat.ne_of_lt (blk_lt (g:=A0) (o := .cells #[.string A3,.int .i64 A4] 130 (0,0)) (dr A1)):A0≠A7));have Ab:=Aside0.mk ((by rw [hg];exact Nat.ne_of_gt (blk_lt (g:=A0) (o := .cells #[.string A3,.int .i64 A4] 130 (0,0)) (dr A1)):A7≠A0));replace A1:=Aside0.mk (blk_below (g:=A0) (o := .cells #[.string A3,.int .i64 A4] 130 (0,0)) (dr A1) hb);have A5:=Aside0.mk ((by rw [hg];exact Nat.ne_of_lt (blk_lt (g:=A2) (o := .cells #[.string (⟨#[]⟩:ByteArray),.int .i64 0] 86 (0,0)) (dr A6)):A2≠A7));have Ac:=Aside0.mk ((by rw [hg];exact Nat.ne_of_gt (blk_lt (g:=A2) (o := .cells #[.string (⟨#[]⟩:ByteArray),.int .i64 0] 86 (0,0)) (dr A6)):A7≠A2));replace A6:=Aside0.mk (blk_below (g:=A2) (o := .cells #[.string (⟨#[]⟩:ByteArray),.int .i64 0] 86 (0,0)) (dr A6) hb);clear hb hbox hg;have hnb5:=A8.out;have hnc5:=A9.out;have hnb6:=Aa.out;have hnc6:=Ab.out;have hcz7__:=c2_ A1;have hfz7__:=f_ A1;have hnb8:=Ac.out;have hnc8:=A5.out;have hcz9__:=c2_ Ad;have hfz9__:=f_ Ad;have hcz10__:=c2_ A6;have hfz10__:=f_ A6))
  refine bodyPost_ret (results_cell_row rfl _ _ A2 86 #[.string A3,.int .i64 A4] (0,0) _ rfl (by (with_reducible repeat (first|refine blk_drewN ?_ _|refine blk_drew ?_|refine blk_alloc ?_ _));refine blk_put (cs:=#[.string A3,.int .i64 0]) ?_ 1 _ rfl;(with_reducible repeat (first|refine blk_drewN ?_ _|refine blk_drew ?_|refine blk_alloc ?_ _));refine blk_put (cs:=#[.string (⟨#[]⟩:ByteArray),.int .i64 0]) ?_ 0 _ rfl;(with_reducible repeat (first|refine blk_drewN ?_ _|refine blk_drew ?_|refine blk_alloc ?_ _));refine blk_far ?_ A5.out _;(with_reducible repeat (first|refine blk_drewN ?_ _|refine blk_drew ?_|refine blk_alloc ?_ _));refine blk_far ?_ A5.out _;(with_reducible repeat (first|refine blk_drewN ?_ _|refine blk_drew ?_|refine blk_alloc ?_ _));exact A6.out) Try.underlying86 rfl (by kernel_rfl)) rfl ?_
  exact ⟨er,tb HB⟩
def laws_toSeenS.l0:Nat→List (S130)→List (S86)→Int→Option ((List (S86)))
  | 0,_,_,_=>none
  | k + 1,x0,x3,x4=>if x4 < (x0.length:Int) then (if 0≤x4 then ((laws_toSeen.f ((rd_T130 x0 x4).f0) ((rd_T130 x0 x4).f1)).bind fun bt105=>(if x4 < (x3.length:Int) then (laws_toSeenS.l0 k x0 (x3.set (x4:Int).toNat (⟨bt105.1,bt105.2⟩:S86)) (wrap64 (x4 + 1))) else (none))) else (none)) else (some x3)
def laws_toSeenS.f (k:Nat) (l0:List (S130)):Option ((List (S86))):=if 0≤(l0.length:Int) then (if ((l0.length:Int):Int).toNat≤11728124029610 then (laws_toSeenS.l0 k l0 (List.replicate ((l0.length:Int):Int).toNat z86) 0) else (none)) else (none)
set_option maxHeartbeats 8000000 in
set_option maxRecDepth 100000 in
theorem laws_toSeenS.calls (k:Nat) (A0:Option Addr) (c0:Nat) (l0:List (S130)) (r:List (S86)) (w:World) (hr0:Kd.C k130 w A0 l0.length l0) (hc0:l0.length≤c0) (h:laws_toSeenS.f k l0=some r) :
    Calls Try.prog 76 #[.slice A0 l0.length c0] w fun e w'=>∃ v0_:Value,e = .returned (v0_)∧Kd.R k86 86 w' w.heap.size (fun _=>True) v0_ r∧Below w.heap.size w w':=by
  have hu130:=Try.underlying130
  have hu86:=Try.underlying86
  have HR0:=Aside0.mk hr0
  have HC0:=Aside0.mk hc0
  clear hr0 hc0
  have HB:=Aside0.mk (Below.refl w.heap.size w)
  have H:(if 0≤(l0.length:Int) then (if ((l0.length:Int):Int).toNat≤11728124029610 then (laws_toSeenS.l0 k l0 (List.replicate ((l0.length:Int):Int).toNat z86) 0) else (none)) else (none))=some r:=h
  clear h
  by_cases c2:0≤(l0.length:Int)
  · rw [if_pos c2] at H
    have c2b0:=eq_true c2
    have c2b1:decide (0≤(l0.length:Int))=true:=decide_eq_true c2
    clear c2
    by_cases c3:((l0.length:Int):Int).toNat≤11728124029610
    · rw [if_pos c3] at H
      have c3b0:=eq_true c3
      have c3b1:decide (((l0.length:Int):Int).toNat≤11728124029610)=true:=decide_eq_true c3
      clear c3
      obtain ⟨y101,hy101⟩:∃ y_:List (S86),y_=(List.replicate ((l0.length:Int):Int).toNat z86):=⟨_,rfl⟩
      replace H:(laws_toSeenS.l0 k l0 y101 0)=some r:=by first|(rw [hy101];with_reducible exact H)|(have H2_:=(Option.bind_some _ _).symm.trans H;rw [hy101];with_reducible exact H2_)|(have H2_:=(Option.bind_some _ _).symm.trans H;with_reducible exact H2_)|with_reducible exact H|(rw [hy101];exact H)|exact H
      have Ny101:=Aside0.mk hy101
      clear hy101
      have H':=Aside0.mk H
      clear H
      go_enter Try.func76,Try.ntmps76
      go_wp2_with (first|((with_reducible refine gate_dst (N:=7) rfl ?_);refine Kd.R_make k86 _ 86 rfl (N:=7) rfl 34 _ _ rfl (l0.length:Int) rfl rfl Try.underlying34 (.agg #[(.string ⟨#[]⟩),(.int .i64 0)]) 24 info86 rfl (by decide) (by omega) z86 (ok:=fun _=>True) (okp:=fun _=>True) (k86_mkM _ _ _ z86 ) (fun _ hk=>hk) trivial (od) (Nat.le_trans (Nat.mul_le_mul_right _ (od:(l0.length:Int).toNat≤11728124029610)) (by omega)) (Below.refl _ _) (Nat.le_refl _) ?_;intro v102 w4 ho5 hb hg_ hnew_;clear hg_ hnew_;(first|rw [← Ny101.out] at ho5|(simp only [Int.reduceToNat] at ho5;rw [← Ny101.out] at ho5));have A6:=Aside0.mk (Kd.R_lower ho5 (below_size (tb HB)));replace HB:=Aside0.mk (below_step (tb HB) hb);clear hb ho5))
      go_loopg [4] k (fun kq v4 w'=>∃ (A2:List (S86)) (A1:Int),v4 = .int .i64 A1∧Aside0 (laws_toSeenS.l0 kq l0 A2 A1=some r)∧Aside0 (kq≤k)∧Aside0 (Kd.R k86 86 w' w.heap.size (fun _=>True) v102 A2)∧Aside0 (Below w.heap.size w w'))
      case atStart=>exact ⟨(y101),(0),(by first|rfl|(simp;done)|(simp [*];done)),H',⟨Nat.le_refl _⟩,⟨ra A6⟩,⟨by exact tb HB⟩⟩
      case round =>
        clear H'
        try clear c2
        try clear c2b0
        try clear c2b1
        try clear p2
        try clear c3
        try clear c3b0
        try clear c3b1
        obtain ⟨A2,A1,rfl,HA,HK1,A3,HB⟩:=hrel
        cases gk with
        | zero=>exact absurd HA.out (by simp [laws_toSeenS.l0])
        | succ k1 =>
          have H:=HA.out
          clear HA
          simp only [laws_toSeenS.l0] at H
          by_cases c6:A1 < (l0.length:Int)
          · rw [if_pos c6] at H
            have c6b0:decide (A1 < (l0.length:Int))=true:=decide_eq_true c6
            clear c6
            by_cases c7:0≤A1
            · rw [if_pos c7] at H
              have c7b0:decide (0≤A1)=true:=decide_eq_true c7
              clear c7
              replace H:=Option.bind_eq_some_iff.mp H
              obtain ⟨⟨A4,A5⟩,A80,H⟩:=H
              replace H:(if A1 < (A2.length:Int) then (laws_toSeenS.l0 k1 l0 (A2.set (A1:Int).toNat (⟨A4,A5⟩:S86)) (wrap64 (A1 + 1))) else (none))=some r:=H
              have A8:=Aside0.mk A80
              clear A80
              by_cases c9:A1 < (A2.length:Int)
              · rw [if_pos c9] at H
                have c9b0:decide (A1 < (A2.length:Int))=true:=decide_eq_true c9
                clear c9
                obtain ⟨y107,hy107⟩:∃ y_:List (S86),y_=(A2.set (A1:Int).toNat (⟨A4,A5⟩:S86)):=⟨_,rfl⟩
                replace H:(laws_toSeenS.l0 k1 l0 y107 (wrap64 (A1 + 1)))=some r:=by first|(rw [hy107];with_reducible exact H)|(have H2_:=(Option.bind_some _ _).symm.trans H;rw [hy107];with_reducible exact H2_)|(have H2_:=(Option.bind_some _ _).symm.trans H;with_reducible exact H2_)|with_reducible exact H|(rw [hy107];exact H)|exact H
                have Ny107:=Aside0.mk hy107
                clear hy107
                have H':=Aside0.mk H
                clear H
                have p104:0≤(A1:Int):=od
                have q104:A1 < (l0.length:Int):=od
                obtain ⟨ad104,e104,hx104_0,hx104_1⟩:=at_T130 HR0.out A1 p104 q104
                cases e104
                replace hx104_0:=(HB.out.cell (World.block_lt_of_cell? w _ hx104_0)).trans hx104_0
                replace hx104_1:=(HB.out.cell (World.block_lt_of_cell? w _ hx104_1)).trans hx104_1
                replace p104:=eq_true p104
                replace q104:=eq_true q104
                go_wp2_with (first|((with_reducible refine gate_callee (f:=112) rfl ?_);refine goesL_ (some 20) rfl rfl Try.func112 (by kernel_rfl) rfl #[.agg #[.string ((rd_T130 l0 A1).f0),.int .i64 ((rd_T130 l0 A1).f1)]] rfl ml ?_;(with_reducible refine (laws_toSeen.calls ((rd_T130 l0 A1).f0) ((rd_T130 l0 A1).f1) A4 A5 _ A8.out).mono ?_);rintro e w11 ⟨rfl,hb⟩;refine ⟨_,rfl,?_⟩;replace A3:=Aside0.mk (Kd.R_below (ra A3) hb);replace HB:=Aside0.mk (below_step (tb HB) hb);(try clear hb);(try clear hb2);(try clear hk);(try clear hi);have p10:0≤(A1:Int):=od;have q10:(A1:Int) < ((A2.length:Int):Int):=od;obtain ⟨go10,A7,eo10,A9,gl10,cl10,HG10⟩:=Kd.R_form A3.out (by omega);(first|cases eo10|(injection eo10 with ea_ en_ ec_;(first|subst ea_|(injection ea_ with ea_;subst ea_));subst ec_;clear en_));have GB10:=Aside0.mk A9;have GG10:=Aside0.mk HG10;clear A9 gl10 HG10;obtain ⟨ce10,hcl10,hM10,hcc10,hfr10⟩:=Kd.R_elem A3.out z86 (A1:Int) p10 q10;obtain rfl:=k86_openM hM10;have hx10_0:w11.cell? ⟨go10,(A1:Int).toNat * 2,none⟩=some (.string ((rd_T86 A2 A1).f0)):=hcc10 0 _ rfl;have hx10_1:w11.cell? ⟨go10,(A1:Int).toNat * 2 + 1,none⟩=some (.int .i64 ((rd_T86 A2 A1).f1)):=hcc10 1 _ rfl;have hf10_0:w11.frozen? ⟨go10,(A1:Int).toNat * 2,none⟩=false:=hfr10 0;have hf10_1:w11.frozen? ⟨go10,(A1:Int).toNat * 2 + 1,none⟩=false:=hfr10 1;clear hcl10 hcc10 hfr10 hM10;replace p10:=eq_true p10;replace q10:=eq_true q10;have HX12:=Aside0.mk (show Kd.R k86 86 w11 w.heap.size (fun _=>True) (.slice (some ⟨go10,0,none⟩) A2.length A7) A2 from (ra A3));obtain ⟨ce12,hcl12,hM12,hcc12,hfr12⟩:=Kd.R_elem HX12.out z86 (A1:Int) (od) (by have h_:(A1:Int) < ((A2.length:Int):Int):=od;first|exact h_|(have e_:=(Kd.R_reads' A3.out).1;omega)|simpa using h_);obtain rfl:=k86_openM hM12;have HP12:=Kd.R_seg HX12.out (A1:Int) (od) (by have h_:(A1:Int) < ((A2.length:Int):Int):=od;first|exact h_|(have e_:=(Kd.R_reads' A3.out).1;omega)|simpa using h_) (seg:=[.string A4,.int .i64 A5]) (j:=0) hcl12 hcc12 (show 2≤2 from by decide) (x':=(⟨A4,A5⟩:S86)) (k86_mkM _ _ _ (⟨A4,A5⟩:S86) ) (fun _ hk=>hk);have hx12_0:=hcc12 0 _ rfl;(try simp only [show (k86).sz=2 from rfl,Nat.mul_one,Nat.add_zero] at hx12_0);have hf12_0:=hfr12 0;(try simp only [show (k86).sz=2 from rfl,Nat.mul_one,Nat.add_zero] at hf12_0);have hx12_1:=hcc12 1 _ rfl;(try simp only [show (k86).sz=2 from rfl,Nat.mul_one,Nat.add_zero] at hx12_1);have hf12_1:=hfr12 1;(try simp only [show (k86).sz=2 from rfl,Nat.mul_one,Nat.add_zero] at hf12_1);clear hcl12 hcc12 hfr12 hM12)|((with_reducible refine gate_store (t:=86) (p:=21) rfl ?_);refine store_event (t:=86) (p:=21) (v:=?vo_w13) (w1:=((w11.setCell ⟨go10,(A1:Int).toNat * 2,none⟩ (.string A4)).setCell ⟨go10,(A1:Int).toNat * 2 + 1,none⟩ (.int .i64 A5))) ?hg ?ho ?hn ?hr ?_;(case ho=>rfl);(case hg=>rfl);(case hn=>rfl);(case hr=>first|(go_simp;done)|(go_simp;rfl));intro w13 hw;have hg:w11.grownBy w13 (some go10):=(by rw [hw];exact HP12.2);have hp_:Kd.R k86 86 w13 w.heap.size (fun _=>True) (.slice (some ⟨go10,0,none⟩) A2.length A7) y107:=(by rw [hw,Ny107.out];exact HP12.1);clear HP12;replace A3:=Aside0.mk (hp_);replace HB:=Aside0.mk ((by rw [hw];exact below_set (below_set (HB.out) GB10.out) GB10.out:Below w.heap.size w w13));clear hg hw hp_))
                go_roundg k1
                case measure=>have:=HK1.out;omega
                case rel=>exact ⟨(y107),(wrap64 (A1 + 1)),(by first|rfl|(simp;done)|(simp [*];done)),H',⟨by have:=HK1.out;omega⟩,⟨ra A3⟩,⟨by exact tb HB⟩⟩
              · rw [if_neg c9] at H
                exact absurd H (by simp)
            · rw [if_neg c7] at H
              exact absurd H (by simp)
          · rw [if_neg c6] at H
            have c6b0:decide (A1 < (l0.length:Int))=false:=decide_eq_false c6
            clear c6
            obtain rfl:=Option.some.inj H
            go_wp2
            go_ret
            exact ⟨_,er,ra A3,tb HB⟩
    · rw [if_neg c3] at H
      exact absurd H (by simp)
  · rw [if_neg c2] at H
    exact absurd H (by simp)
def laws_toTable.f (A3:Int) (A4:ByteArray):Option (Int × ByteArray):=some (A3,A4)
set_option maxHeartbeats 8000000 in
set_option maxRecDepth 100000 in
theorem laws_toTable.calls (A3:Int) (A4:ByteArray) (r1:Int) (r2:ByteArray) (w:World) (h:laws_toTable.f A3 A4=some (r1,r2)) :
    Calls Try.prog 18 #[.agg #[.int .i64 A3,.string A4]] w fun e w'=>e = .returned (.agg #[.int .i64 r1,.string r2])∧Below w.heap.size w w':=by
  have hu24:=Try.underlying24
  have hu29:=Try.underlying29
  have HB:=Aside0.mk (Below.refl w.heap.size w)
  have H:(some (A3,A4))=some (r1,r2):=h
  clear h
  simp only [Option.some.injEq,Prod.mk.injEq] at H
  obtain ⟨rfl,rfl⟩:=H
  go_enter Try.func18,Try.ntmps18
  go_wp2_with (first|((with_reducible refine gate_dst (N:=1) rfl ?_);refine bx (N:=1) (cs:=#[.int .i64 A3,.string A4]) (t:=24) ?_;intro A0 hg w2 hbox hb;have A1:=Aside0.mk (hbox);have GW101:=Aside0.mk ((by rw [hg];exact (below_size (tb HB)):w.heap.size≤A0));have GE101:=Aside0.mk ((by rw [hg];exact (below_size (tb HB)):w.heap.size≤A0));replace HB:=Aside0.mk (below_step (tb HB) hb);clear hb hbox hg)|((with_reducible refine gate_dst (N:=2) rfl ?_);refine bx (N:=2) (cs:=#[.int .i64 0,.string (⟨#[]⟩:ByteArray)]) (t:=29) ?_;intro A2 hg w3 hbox hb;have A6:=Aside0.mk (hbox);have GW102:=Aside0.mk ((by rw [hg];exact (below_size (tb HB)):w.heap.size≤A2));have GE102:=Aside0.mk ((by rw [hg];exact (below_size (tb HB)):w.heap.size≤A2));replace HB:=Aside0.mk (below_step (tb HB) hb);have A8:=Aside0.mk ((by rw [hg];exact Nat.ne_of_lt (blk_lt (g:=A0) (o := .cells #[.int .i64 A3,.string A4] 24 (0,0)) (dr A1)):A0≠A2));have A9:=Aside0.mk ((by rw [hg];exact Nat.ne_of_gt (blk_lt (g:=A0) (o := .cells #[.int .i64 A3,.string A4] 24 (0,0)) (dr A1)):A2≠A0));replace A1:=Aside0.mk (blk_below (g:=A0) (o := .cells #[.int .i64 A3,.string A4] 24 (0,0)) (dr A1) hb);clear hb hbox hg)|((with_reducible refine gate_dst (N:=3) rfl ?_);refine bx (N:=3) (cs:=#[.int .i64 0,.string (⟨#[]⟩:ByteArray)]) (t:=29) ?_;intro A7 hg w4 hbox hb;have Ad:=Aside0.mk (hbox);have GW103:=Aside0.mk ((by rw [hg];exact (below_size (tb HB)):w.heap.size≤A7));have GE103:=Aside0.mk ((by rw [hg];exact (below_size (tb HB)):w.heap.size≤A7));replace HB:=Aside0.mk (below_step (tb HB) hb);have Aa:=Aside0.mk ((by rw [hg];exact Nat.ne_of_lt (blk_lt (g:=A0) (o := .cells #[.int .i64 A3,.string A4] 24 (0,0)) (dr A1)):A0≠A7));have Ab:=Aside0.mk ((by rw [hg];exact Nat.ne_of_gt (blk_lt (g:=A0) (o := .cells #[.int .i64 A3,.string A4] 24 (0,0)) (dr A1)):A7≠A0));replace A1:=Aside0.mk (blk_below (g:=A0) (o := .cells #[.int .i64 A3,.string A4] 24 (0,0)) (dr A1) hb);have A5:=Aside0.mk ((by rw [hg];exact Nat.ne_of_lt (blk_lt (g:=A2) (o := .cells #[.int .i64 0,.string (⟨#[]⟩:ByteArray)] 29 (0,0)) (dr A6)):A2≠A7));have Ac:=Aside0.mk ((by rw [hg];exact Nat.ne_of_gt (blk_lt (g:=A2) (o := .cells #[.int .i64 0,.string (⟨#[]⟩:ByteArray)] 29 (0,0)) (dr A6)):A7≠A2));replace A6:=Aside0.mk (blk_below (g:=A2) (o := .cells #[.int .i64 0,.string (⟨#[]⟩:ByteArray)] 29 (0,0)) (dr A6) hb);clear hb hbox hg;have hnb5:=A8.out;have hnc5:=A9.out;have hnb6:=Aa.out;have hnc6:=Ab.out;have hcz7__:=c2_ A1;have hfz7__:=f_ A1;have hnb8:=Ac.out;have hnc8:=A5.out;have hcz9__:=c2_ Ad;have hfz9__:=f_ Ad;have hcz10__:=c2_ A6;have hfz10__:=f_ A6))
  refine bodyPost_ret (results_cell_row rfl _ _ A2 29 #[.int .i64 A3,.string A4] (0,0) _ rfl (by (with_reducible repeat (first|refine blk_drewN ?_ _|refine blk_drew ?_|refine blk_alloc ?_ _));refine blk_put (cs:=#[.int .i64 A3,.string (⟨#[]⟩:ByteArray)]) ?_ 1 _ rfl;(with_reducible repeat (first|refine blk_drewN ?_ _|refine blk_drew ?_|refine blk_alloc ?_ _));refine blk_put (cs:=#[.int .i64 0,.string (⟨#[]⟩:ByteArray)]) ?_ 0 _ rfl;(with_reducible repeat (first|refine blk_drewN ?_ _|refine blk_drew ?_|refine blk_alloc ?_ _));refine blk_far ?_ A5.out _;(with_reducible repeat (first|refine blk_drewN ?_ _|refine blk_drew ?_|refine blk_alloc ?_ _));refine blk_far ?_ A5.out _;(with_reducible repeat (first|refine blk_drewN ?_ _|refine blk_drew ?_|refine blk_alloc ?_ _));exact A6.out) Try.underlying29 rfl (by kernel_rfl)) rfl ?_
  exact ⟨er,tb HB⟩
end Go.Proofs.Ytlpfmhikahlcoaa.G
namespace Go.Proofs.Ytlpfmhikahlcoaa.G
open Go.Proofs.Ytlpfmhikahlcoaa.Sh Go.RowKit Go.Proofs.YtlpfmhikahlcoaaW.PrintWords Go.Proofs.YtlpfmhikahlcoaaW.PrintLast Go.Proofs.YtlpfmhikahlcoaaW.PrintMore
attribute [local go_sem] max2_int min2_int max_two min_two max_three min_three max_four min_four
set_option linter.unusedVariables false
set_option linter.unusedSimpArgs false
def laws_toMachine.f (k:Nat) (As:List Bool) (Au:Int) (Av:ByteArray) (A8:Int) (Am:List Int) (Af:Int) (Ah:Bool) (Ai:Int) (Al:Int) (An:Int) (Ae:List (S130)):Option (List Bool × Int × ByteArray × Int × List Int × Int × Bool × Int × Int × Int × (List (S86))):=(laws_toBoolS.f k As).bind fun A6=>((laws_toTable.f Au Av).bind fun bt107=>((laws_toIntS.f k Am).bind fun A9=>((laws_toSeenS.f k Ae).bind fun Ao=>(some (A6,bt107.1,bt107.2,A8,A9,Af,Ah,Ai,Al,An,Ao)))))
set_option maxHeartbeats 80000000 in
set_option maxRecDepth 100000 in
theorem laws_toMachine.calls (k:Nat) (B5:Option Addr) (B6:Nat) (As:List Bool) (Au:Int) (Av:ByteArray) (A8:Int) (B7:Option Addr) (B8:Nat) (Am:List Int) (Af:Int) (Ah:Bool) (Ai:Int) (Al:Int) (An:Int) (Aw:Option Addr) (Ax:Nat) (Ae:List (S130)) (r1:List Bool) (r2:Int) (r3:ByteArray) (r4:Int) (r5:List Int) (r6:Int) (r7:Bool) (r8:Int) (r9:Int) (r10:Int) (r11:List (S86)) (w:World) (hr0_0:Kd.C Kd.bool w B5 As.length As) (hc0_0:As.length≤B6) (hr0_4:Kd.C (Kd.int .i64) w B7 Am.length Am) (hc0_4:Am.length≤B8) (hr0_10:Kd.C k130 w Aw Ae.length Ae) (hc0_10:Ae.length≤Ax) (h:laws_toMachine.f k As Au Av A8 Am Af Ah Ai Al An Ae=some (r1,r2,r3,r4,r5,r6,r7,r8,r9,r10,r11)) :
  Calls Try.prog 31 #[.agg #[.slice B5 As.length B6,.int .i64 Au,.string Av,.int .i64 A8,.slice B7 Am.length B8,.int .i64 Af,.bool Ah,.int .i64 Ai,.int .i64 Al,.int .i64 An,.slice Aw Ae.length Ax]] w fun e w'=>∃ v0_ v4_ v10_:Value,e = .returned (.agg #[v0_,.int .i64 r2,.string r3,.int .i64 r4,v4_,.int .i64 r6,.bool r7,.int .i64 r8,.int .i64 r9,.int .i64 r10,v10_])∧Kd.R Kd.bool 4 w' w.heap.size (fun _=>True) v0_ r1∧Kd.R (Kd.int .i64) 3 w' w.heap.size (fun _=>True) v4_ r5∧Kd.R k86 86 w' w.heap.size (fun _=>True) v10_ r11∧Below w.heap.size w w':=by
 have hu45:=Try.underlying45;have hu36:=Try.underlying36;have hu24:=Try.underlying24;have hu29:=Try.underlying29;have Bc:=Aside0.mk hr0_0;have Bd:=Aside0.mk hc0_0;clear hr0_0 hc0_0;have Be:=Aside0.mk hr0_4;have Bf:=Aside0.mk hc0_4;clear hr0_4 hc0_4;have Ba:=Aside0.mk hr0_10;have Bb:=Aside0.mk hc0_10;clear hr0_10 hc0_10;have HB:=Aside0.mk (Below.refl w.heap.size w)
 have H:((laws_toBoolS.f k As).bind fun A6=>((laws_toTable.f Au Av).bind fun bt107=>((laws_toIntS.f k Am).bind fun A9=>((laws_toSeenS.f k Ae).bind fun Ao=>(some (A6,bt107.1,bt107.2,A8,A9,Af,Ah,Ai,Al,An,Ao))))))=some (r1,r2,r3,r4,r5,r6,r7,r8,r9,r10,r11):=h
 clear h
 replace H:=Option.bind_eq_some_iff.mp H
 obtain ⟨A6,A20,H⟩:=H
 replace H:((laws_toTable.f Au Av).bind fun bt107=>((laws_toIntS.f k Am).bind fun A9=>((laws_toSeenS.f k Ae).bind fun Ao=>(some (A6,bt107.1,bt107.2,A8,A9,Af,Ah,Ai,Al,An,Ao)))))=some (r1,r2,r3,r4,r5,r6,r7,r8,r9,r10,r11):=H
 have A2:=Aside0.mk A20;clear A20
 replace H:=Option.bind_eq_some_iff.mp H
 obtain ⟨⟨Aa,Ad⟩,A30,H⟩:=H
 replace H:((laws_toIntS.f k Am).bind fun A9=>((laws_toSeenS.f k Ae).bind fun Ao=>(some (A6,Aa,Ad,A8,A9,Af,Ah,Ai,Al,An,Ao))))=some (r1,r2,r3,r4,r5,r6,r7,r8,r9,r10,r11):=H
 have A3:=Aside0.mk A30;clear A30
 replace H:=Option.bind_eq_some_iff.mp H
 obtain ⟨A9,A40,H⟩:=H
 replace H:((laws_toSeenS.f k Ae).bind fun Ao=>(some (A6,Aa,Ad,A8,A9,Af,Ah,Ai,Al,An,Ao)))=some (r1,r2,r3,r4,r5,r6,r7,r8,r9,r10,r11):=H
 have A4:=Aside0.mk A40;clear A40
 replace H:=Option.bind_eq_some_iff.mp H
 obtain ⟨Ao,A50,H⟩:=H
 replace H:(some (A6,Aa,Ad,A8,A9,Af,Ah,Ai,Al,An,Ao))=some (r1,r2,r3,r4,r5,r6,r7,r8,r9,r10,r11):=H
 have A5:=Aside0.mk A50;clear A50
 simp only [Option.some.injEq,Prod.mk.injEq] at H
 obtain ⟨rfl,rfl,rfl,rfl,rfl,rfl,rfl,rfl,rfl,rfl,rfl⟩:=H
 go_enter Try.func31,Try.ntmps31
 go_wp2_with (first|((with_reducible refine gate_dst (N:=1) rfl ?_);refine bx (N:=1) (cs:=#[.slice B5 As.length B6,.int .i64 Au,.string Av,.int .i64 A8,.slice B7 Am.length B8,.int .i64 Af,.bool Ah,.int .i64 Ai,.int .i64 Al,.int .i64 An,.slice Aw Ae.length Ax]) (t:=45) ?_;intro gb101 hg w6 hbox hb;have A0:=Aside0.mk (hbox);have GW101:=bz0 hg HB;have Ak:=bz0 hg HB;replace HB:=bs0 HB hb;clear hb hbox hg)|((with_reducible refine gate_dst (N:=2) rfl ?_);refine bx (N:=2) (cs:=#[.slice none 0 0,.int .i64 0,.string (⟨#[]⟩:ByteArray),.int .i64 0,.slice none 0 0,.int .i64 0,.bool false,.int .i64 0,.int .i64 0,.int .i64 0,.slice none 0 0]) (t:=36) ?_;intro Bg hg w7 hbox hb;have A7:=Aside0.mk (hbox);have GW102:=bz1 hg HB Ak;have At:=bz1 hg HB Ak;replace HB:=bs1 HB hb Ak;have B0:=nl hg A0;have B1:=ng hg A0;replace A0:=bb A0 hb;clear hb hbox hg)|((with_reducible refine gate_dst (N:=3) rfl ?_);refine bx (N:=3) (cs:=#[.slice none 0 0,.int .i64 0,.string (⟨#[]⟩:ByteArray),.int .i64 0,.slice none 0 0,.int .i64 0,.bool false,.int .i64 0,.int .i64 0,.int .i64 0,.slice none 0 0]) (t:=36) ?_;intro B4 hg w8 hbox hb;have A1:=Aside0.mk (hbox);have GW103:=bz2 hg HB Ak At;have Ay:=bz2 hg HB Ak At;replace HB:=bs2 HB hb Ak At;have Aj:=nl hg A0;have B2:=ng hg A0;replace A0:=bb A0 hb;have Ag:=nl hg A7;have B3:=ng hg A7;replace A7:=bb A7 hb;clear hb hbox hg;have hnb9:=B0.out;have hnc9:=B1.out;have hnb10:=Aj.out;have hnc10:=B2.out;have hcz11__:=c11_ A0;have hfz11__:=f_ A0)|((with_reducible refine gate_callee (f:=17) rfl ?_);refine goesL_ (some 6) rfl rfl Try.func17 (by kernel_rfl) rfl #[.slice B5 As.length B6] rfl ml ?_;(with_reducible refine (laws_toBoolS.calls k _ _ As A6 _ ?side1 ?side2 A2.out).mono ?_);(case side1=>exact cw (Kd.C_below Bc.out HB.out));(case side2=>exact Bd.out);rintro e w12 ⟨v105,rfl,ho0,hb⟩;refine ⟨_,rfl,?_⟩;have Ar:=Aside0.mk (Kd.R_lower ho0 (below_size (tb HB)));replace A0:=bb A0 hb;replace A7:=bb A7 hb;replace A1:=bb A1 hb;replace HB:=bs3 HB hb Ak At Ay;(try clear hb);(try clear hb2);(try clear hk);(try clear hi);(try clear ho0);obtain ⟨Ab,Ac,eo13⟩:=Kd.R_slice Ar.out;subst eo13;have hnb14:=B3.out;have hnc14:=Ag.out;have hcz15__:=c11_ A1;have hfz15__:=f_ A1;have hcz16__:=c11_ A0;have hfz16__:=f_ A0)|((with_reducible refine gate_callee (f:=18) rfl ?_);refine goesL_ (some 10) rfl rfl Try.func18 (by kernel_rfl) rfl #[.agg #[.int .i64 Au,.string Av]] rfl ml ?_;(with_reducible refine (laws_toTable.calls Au Av Aa Ad _ A3.out).mono ?_);rintro e w17 ⟨rfl,hb⟩;refine ⟨_,rfl,?_⟩;replace Ar:=rbf Ar A1 hb;replace A0:=Aside0.mk (blk_below (dq A0 Aj) hb);replace A7:=Aside0.mk (blk_below (dq A7 Ag) hb);replace A1:=Aside0.mk (blk_below (g:=B4) (o := .cells #[.slice Ab A6.length Ac,.int .i64 0,.string (⟨#[]⟩:ByteArray),.int .i64 0,.slice none 0 0,.int .i64 0,.bool false,.int .i64 0,.int .i64 0,.int .i64 0,.slice none 0 0] 36 (0,0)) (by (with_reducible repeat (first|refine blk_drewN ?_ _|refine blk_drew ?_|refine blk_alloc ?_ _));refine blk_put (cs:=#[.slice none 0 0,.int .i64 0,.string (⟨#[]⟩:ByteArray),.int .i64 0,.slice none 0 0,.int .i64 0,.bool false,.int .i64 0,.int .i64 0,.int .i64 0,.slice none 0 0]) ?_ 0 _ rfl;(with_reducible repeat (first|refine blk_drewN ?_ _|refine blk_drew ?_|refine blk_alloc ?_ _));exact A1.out) hb);replace HB:=bs3 HB hb Ak At Ay;(try clear hb);(try clear hb2);(try clear hk);(try clear hi);have hcz18__:=c11_ A1;have hfz18__:=f_ A1;have hcz19__:=c11_ A0;have hfz19__:=f_ A0)|((with_reducible refine gate_callee (f:=75) rfl ?_);refine goesL_ (some 17) rfl rfl Try.func75 (by kernel_rfl) rfl #[.slice B7 Am.length B8] rfl ml ?_;(with_reducible refine (laws_toIntS.calls k _ _ Am A9 _ ?side1 ?side2 A4.out).mono ?_);(case side1=>exact Kd.C_below Be.out (tb HB));(case side2=>exact Bf.out);rintro e w20 ⟨v110,rfl,ho0,hb⟩;refine ⟨_,rfl,?_⟩;replace Ar:=rbf Ar A1 hb;have Az:=Aside0.mk (Kd.R_lower ho0 (below_size (tb HB)));replace A0:=Aside0.mk (blk_below (dq A0 Aj) hb);replace A7:=Aside0.mk (blk_below (dq A7 Ag) hb);replace A1:=Aside0.mk (blk_below (g:=B4) (o := .cells #[.slice Ab A6.length Ac,.int .i64 Aa,.string Ad,.int .i64 A8,.slice none 0 0,.int .i64 0,.bool false,.int .i64 0,.int .i64 0,.int .i64 0,.slice none 0 0] 36 (0,0)) (by (with_reducible repeat (first|refine blk_drewN ?_ _|refine blk_drew ?_|refine blk_alloc ?_ _));refine blk_put (cs:=#[.slice Ab A6.length Ac,.int .i64 Aa,.string Ad,.int .i64 0,.slice none 0 0,.int .i64 0,.bool false,.int .i64 0,.int .i64 0,.int .i64 0,.slice none 0 0]) ?_ 3 _ rfl;(with_reducible repeat (first|refine blk_drewN ?_ _|refine blk_drew ?_|refine blk_alloc ?_ _));refine blk_put (cs:=#[.slice Ab A6.length Ac,.int .i64 Aa,.string (⟨#[]⟩:ByteArray),.int .i64 0,.slice none 0 0,.int .i64 0,.bool false,.int .i64 0,.int .i64 0,.int .i64 0,.slice none 0 0]) ?_ 2 _ rfl;(with_reducible repeat (first|refine blk_drewN ?_ _|refine blk_drew ?_|refine blk_alloc ?_ _));refine blk_put (cs:=#[.slice Ab A6.length Ac,.int .i64 0,.string (⟨#[]⟩:ByteArray),.int .i64 0,.slice none 0 0,.int .i64 0,.bool false,.int .i64 0,.int .i64 0,.int .i64 0,.slice none 0 0]) ?_ 1 _ rfl;(with_reducible repeat (first|refine blk_drewN ?_ _|refine blk_drew ?_|refine blk_alloc ?_ _));exact A1.out) hb);replace HB:=bs3 HB hb Ak At Ay;(try clear hb);(try clear hb2);(try clear hk);(try clear hi);(try clear ho0);obtain ⟨Ap,Aq,eo21⟩:=Kd.R_slice Az.out;subst eo21;have hcz22__:=c11_ A1;have hfz22__:=f_ A1;have hcz23__:=c11_ A0;have hfz23__:=f_ A0)|((with_reducible refine gate_callee (f:=76) rfl ?_);refine goesL_ (some 36) rfl rfl Try.func76 (by kernel_rfl) rfl #[.slice Aw Ae.length Ax] rfl ml ?_;(with_reducible refine (laws_toSeenS.calls k _ _ Ae Ao _ ?side1 ?side2 A5.out).mono ?_);(case side1=>exact Kd.C_below Ba.out (tb HB));(case side2=>exact Bb.out);rintro e w24 ⟨v113,rfl,ho0,hb⟩;refine ⟨_,rfl,?_⟩;replace Ar:=rbf Ar A1 hb;replace Az:=rbf Az A1 hb;have B9:=Aside0.mk (Kd.R_lower ho0 (below_size (tb HB)));replace A0:=Aside0.mk (blk_below (dq A0 Aj) hb);replace A7:=Aside0.mk (blk_below (dq A7 Ag) hb);replace A1:=Aside0.mk (blk_below (g:=B4) (o := .cells #[.slice Ab A6.length Ac,.int .i64 Aa,.string Ad,.int .i64 A8,.slice Ap A9.length Aq,.int .i64 Af,.bool Ah,.int .i64 Ai,.int .i64 Al,.int .i64 An,.slice none 0 0] 36 (0,0)) (by (with_reducible repeat (first|refine blk_drewN ?_ _|refine blk_drew ?_|refine blk_alloc ?_ _));refine blk_put (cs:=#[.slice Ab A6.length Ac,.int .i64 Aa,.string Ad,.int .i64 A8,.slice Ap A9.length Aq,.int .i64 Af,.bool Ah,.int .i64 Ai,.int .i64 Al,.int .i64 0,.slice none 0 0]) ?_ 9 _ rfl;(with_reducible repeat (first|refine blk_drewN ?_ _|refine blk_drew ?_|refine blk_alloc ?_ _));refine blk_put (cs:=#[.slice Ab A6.length Ac,.int .i64 Aa,.string Ad,.int .i64 A8,.slice Ap A9.length Aq,.int .i64 Af,.bool Ah,.int .i64 Ai,.int .i64 0,.int .i64 0,.slice none 0 0]) ?_ 8 _ rfl;(with_reducible repeat (first|refine blk_drewN ?_ _|refine blk_drew ?_|refine blk_alloc ?_ _));refine blk_put (cs:=#[.slice Ab A6.length Ac,.int .i64 Aa,.string Ad,.int .i64 A8,.slice Ap A9.length Aq,.int .i64 Af,.bool Ah,.int .i64 0,.int .i64 0,.int .i64 0,.slice none 0 0]) ?_ 7 _ rfl;(with_reducible repeat (first|refine blk_drewN ?_ _|refine blk_drew ?_|refine blk_alloc ?_ _));refine blk_put (cs:=#[.slice Ab A6.length Ac,.int .i64 Aa,.string Ad,.int .i64 A8,.slice Ap A9.length Aq,.int .i64 Af,.bool false,.int .i64 0,.int .i64 0,.int .i64 0,.slice none 0 0]) ?_ 6 _ rfl;(with_reducible repeat (first|refine blk_drewN ?_ _|refine blk_drew ?_|refine blk_alloc ?_ _));refine blk_put (cs:=#[.slice Ab A6.length Ac,.int .i64 Aa,.string Ad,.int .i64 A8,.slice Ap A9.length Aq,.int .i64 0,.bool false,.int .i64 0,.int .i64 0,.int .i64 0,.slice none 0 0]) ?_ 5 _ rfl;(with_reducible repeat (first|refine blk_drewN ?_ _|refine blk_drew ?_|refine blk_alloc ?_ _));refine blk_put (cs:=#[.slice Ab A6.length Ac,.int .i64 Aa,.string Ad,.int .i64 A8,.slice none 0 0,.int .i64 0,.bool false,.int .i64 0,.int .i64 0,.int .i64 0,.slice none 0 0]) ?_ 4 _ rfl;(with_reducible repeat (first|refine blk_drewN ?_ _|refine blk_drew ?_|refine blk_alloc ?_ _));exact A1.out) hb);replace HB:=bs3 HB hb Ak At Ay;(try clear hb);(try clear hb2);(try clear hk);(try clear hi);(try clear ho0);obtain ⟨Ao25,co25,eo25⟩:=Kd.R_slice B9.out;subst eo25;have hcz26__:=c11_ A1;have hfz26__:=f_ A1;have hcz27__:=c11_ A7;have hfz27__:=f_ A7))
 refine bodyPost_ret (results_cell_row rfl _ _ Bg 36 #[.slice Ab A6.length Ac,.int .i64 Aa,.string Ad,.int .i64 A8,.slice Ap A9.length Aq,.int .i64 Af,.bool Ah,.int .i64 Ai,.int .i64 Al,.int .i64 An,.slice Ao25 Ao.length co25] (0,0) _ rfl (by (with_reducible repeat (first|refine blk_drewN ?_ _|refine blk_drew ?_|refine blk_alloc ?_ _));refine blk_put (cs:=#[.slice Ab A6.length Ac,.int .i64 Aa,.string Ad,.int .i64 A8,.slice Ap A9.length Aq,.int .i64 Af,.bool Ah,.int .i64 Ai,.int .i64 Al,.int .i64 An,.slice none 0 0]) ?_ 10 _ rfl;(with_reducible repeat (first|refine blk_drewN ?_ _|refine blk_drew ?_|refine blk_alloc ?_ _));refine blk_put (cs:=#[.slice Ab A6.length Ac,.int .i64 Aa,.string Ad,.int .i64 A8,.slice Ap A9.length Aq,.int .i64 Af,.bool Ah,.int .i64 Ai,.int .i64 Al,.int .i64 0,.slice none 0 0]) ?_ 9 _ rfl;(with_reducible repeat (first|refine blk_drewN ?_ _|refine blk_drew ?_|refine blk_alloc ?_ _));refine blk_put (cs:=#[.slice Ab A6.length Ac,.int .i64 Aa,.string Ad,.int .i64 A8,.slice Ap A9.length Aq,.int .i64 Af,.bool Ah,.int .i64 Ai,.int .i64 0,.int .i64 0,.slice none 0 0]) ?_ 8 _ rfl;(with_reducible repeat (first|refine blk_drewN ?_ _|refine blk_drew ?_|refine blk_alloc ?_ _));refine blk_put (cs:=#[.slice Ab A6.length Ac,.int .i64 Aa,.string Ad,.int .i64 A8,.slice Ap A9.length Aq,.int .i64 Af,.bool Ah,.int .i64 0,.int .i64 0,.int .i64 0,.slice none 0 0]) ?_ 7 _ rfl;(with_reducible repeat (first|refine blk_drewN ?_ _|refine blk_drew ?_|refine blk_alloc ?_ _));refine blk_put (cs:=#[.slice Ab A6.length Ac,.int .i64 Aa,.string Ad,.int .i64 A8,.slice Ap A9.length Aq,.int .i64 Af,.bool false,.int .i64 0,.int .i64 0,.int .i64 0,.slice none 0 0]) ?_ 6 _ rfl;(with_reducible repeat (first|refine blk_drewN ?_ _|refine blk_drew ?_|refine blk_alloc ?_ _));refine blk_put (cs:=#[.slice Ab A6.length Ac,.int .i64 Aa,.string Ad,.int .i64 A8,.slice Ap A9.length Aq,.int .i64 0,.bool false,.int .i64 0,.int .i64 0,.int .i64 0,.slice none 0 0]) ?_ 5 _ rfl;(with_reducible repeat (first|refine blk_drewN ?_ _|refine blk_drew ?_|refine blk_alloc ?_ _));refine blk_put (cs:=#[.slice Ab A6.length Ac,.int .i64 Aa,.string Ad,.int .i64 A8,.slice none 0 0,.int .i64 0,.bool false,.int .i64 0,.int .i64 0,.int .i64 0,.slice none 0 0]) ?_ 4 _ rfl;(with_reducible repeat (first|refine blk_drewN ?_ _|refine blk_drew ?_|refine blk_alloc ?_ _));refine blk_put (cs:=#[.slice Ab A6.length Ac,.int .i64 Aa,.string Ad,.int .i64 0,.slice none 0 0,.int .i64 0,.bool false,.int .i64 0,.int .i64 0,.int .i64 0,.slice none 0 0]) ?_ 3 _ rfl;(with_reducible repeat (first|refine blk_drewN ?_ _|refine blk_drew ?_|refine blk_alloc ?_ _));refine blk_put (cs:=#[.slice Ab A6.length Ac,.int .i64 Aa,.string (⟨#[]⟩:ByteArray),.int .i64 0,.slice none 0 0,.int .i64 0,.bool false,.int .i64 0,.int .i64 0,.int .i64 0,.slice none 0 0]) ?_ 2 _ rfl;(with_reducible repeat (first|refine blk_drewN ?_ _|refine blk_drew ?_|refine blk_alloc ?_ _));refine blk_put (cs:=#[.slice Ab A6.length Ac,.int .i64 0,.string (⟨#[]⟩:ByteArray),.int .i64 0,.slice none 0 0,.int .i64 0,.bool false,.int .i64 0,.int .i64 0,.int .i64 0,.slice none 0 0]) ?_ 1 _ rfl;(with_reducible repeat (first|refine blk_drewN ?_ _|refine blk_drew ?_|refine blk_alloc ?_ _));refine blk_put (cs:=#[.slice none 0 0,.int .i64 0,.string (⟨#[]⟩:ByteArray),.int .i64 0,.slice none 0 0,.int .i64 0,.bool false,.int .i64 0,.int .i64 0,.int .i64 0,.slice none 0 0]) ?_ 0 _ rfl;(with_reducible repeat (first|refine blk_drewN ?_ _|refine blk_drew ?_|refine blk_alloc ?_ _));refine blk_far ?_ Ag.out _;(with_reducible repeat (first|refine blk_drewN ?_ _|refine blk_drew ?_|refine blk_alloc ?_ _));exact A7.out) Try.underlying36 rfl (by kernel_rfl)) rfl ?_
 exact ⟨_,_,_,er,by exact rfs (Kd.R_types (Kd.R_types Ar.out A1.out (by decide)) A7.out (by decide)),by exact rfs (Kd.R_types (Kd.R_types Az.out A1.out (by decide)) A7.out (by decide)),by exact rfs (Kd.R_types (Kd.R_types B9.out A1.out (by decide)) A7.out (by decide)),tb HB⟩
end Go.Proofs.Ytlpfmhikahlcoaa.G
namespace Go.Proofs.Ytlpfmhikahlcoaa.G
open Go.Proofs.Ytlpfmhikahlcoaa.Sh
open Go.RowKit Go.Proofs.YtlpfmhikahlcoaaW.PrintWords Go.Proofs.YtlpfmhikahlcoaaW.PrintLast Go.Proofs.YtlpfmhikahlcoaaW.PrintMore
attribute [local go_sem] max2_int min2_int max_two min_two max_three min_three max_four min_four
set_option linter.unusedVariables false
set_option linter.unusedSimpArgs false
def spec_l01In.f (a0:Int) (a1:Int) (a2:Int):Option (Bool):=if a0 ≥ a1 then (some (decide (a0≤a2))) else (some false)
set_option maxHeartbeats 8000000 in
set_option maxRecDepth 100000 in
theorem spec_l01In.calls (a0:Int) (a1:Int) (a2:Int) (r:Bool) (w:World) (h:spec_l01In.f a0 a1 a2=some r) :
    Calls Try.prog 63 #[.int .i64 a0,.int .i64 a1,.int .i64 a2] w fun e w'=>e = .returned (.bool r)∧Drawn0 w w':=by
  have H:(if a0 ≥ a1 then (some (decide (a0≤a2))) else (some false))=some r:=h
  clear h
  by_cases c4:a0 ≥ a1
  · rw [if_pos c4] at H
    have c4b0:decide (a1≤a0)=true:=decide_eq_true c4
    clear c4
    obtain rfl:=Option.some.inj H
    go_enter Try.func63,Try.ntmps63
    go_wp2
    go_ret
    exact ⟨by first|rfl|(simp;done)|(simp [*];done),by repeat (first|exact Drawn0.refl _|apply Drawn0.step)⟩
  · rw [if_neg c4] at H
    have c4b0:decide (a1≤a0)=false:=decide_eq_false c4
    clear c4
    obtain rfl:=Option.some.inj H
    go_enter Try.func63,Try.ntmps63
    go_wp2
    go_ret
    exact ⟨by first|rfl|(simp;done)|(simp [*];done),by repeat (first|exact Drawn0.refl _|apply Drawn0.step)⟩
def spec_l01Pow2.l0:Nat→Int→Int→Int→Option (Int)
  | 0,_,_,_=>none
  | k + 1,x0,x3,x4=>if x4 < x0 then (spec_l01Pow2.l0 k x0 (wrap64 (2 * x3)) (wrap64 (x4 + 1))) else (some x3)
def spec_l01Pow2.f (k:Nat) (a0:Int):Option (Int):=spec_l01Pow2.l0 k a0 1 0
set_option maxHeartbeats 8000000 in
set_option maxRecDepth 100000 in
theorem spec_l01Pow2.calls (k:Nat) (a0:Int) (r:Int) (w:World) (h:spec_l01Pow2.f k a0=some r) :
    Calls Try.prog 119 #[.int .i64 a0] w fun e w'=>e = .returned (.int .i64 r)∧Drawn0 w w':=by
  have H:(spec_l01Pow2.l0 k a0 1 0)=some r:=h
  clear h
  have H':=Aside0.mk H
  clear H
  go_enter Try.func119,Try.ntmps119
  go_wp2
  go_loopg [3,4] k (fun kq v3 v4 w'=>∃ (A1:Int) (A0:Int),v3 = .int .i64 A1∧v4 = .int .i64 A0∧Aside0 (spec_l01Pow2.l0 kq a0 A1 A0=some r)∧Aside0 (kq≤k)∧Drawn0 w w')
  case atStart=>exact ⟨(1),(0),(by first|rfl|(simp;done)|(simp [*];done)),(by first|rfl|(simp;done)|(simp [*];done)),H',⟨Nat.le_refl _⟩,by repeat (first|exact Drawn0.refl _|apply Drawn0.step)⟩
  case round =>
    clear H'
    try clear c1
    obtain ⟨A1,A0,rfl,rfl,HA,HK1,⟨m1,rfl⟩⟩:=hrel
    cases gk with
    | zero=>exact absurd HA.out (by simp [spec_l01Pow2.l0])
    | succ k1 =>
      have H:=HA.out
      clear HA
      simp only [spec_l01Pow2.l0] at H
      by_cases c2:A0 < a0
      · rw [if_pos c2] at H
        have c2b0:decide (A0 < a0)=true:=decide_eq_true c2
        clear c2
        have H':=Aside0.mk H
        clear H
        go_wp2
        go_roundg k1
        case measure=>have:=HK1.out;omega
        case rel=>exact ⟨(wrap64 (2 * A1)),(wrap64 (A0 + 1)),(by first|rfl|(simp;done)|(simp [*];done)),(by first|rfl|(simp;done)|(simp [*];done)),H',⟨by have:=HK1.out;omega⟩,by repeat (first|exact Drawn0.refl _|apply Drawn0.step)⟩
      · rw [if_neg c2] at H
        have c2b0:decide (A0 < a0)=false:=decide_eq_false c2
        clear c2
        obtain rfl:=Option.some.inj H
        go_wp2
        go_ret
        exact ⟨by first|rfl|(simp;done)|(simp [*];done),by repeat (first|exact Drawn0.refl _|apply Drawn0.step)⟩
end Go.Proofs.Ytlpfmhikahlcoaa.G
namespace Go.Proofs.Ytlpfmhikahlcoaa.G
open Go.Proofs.Ytlpfmhikahlcoaa.Sh Go.RowKit Go.Proofs.YtlpfmhikahlcoaaW.PrintWords Go.Proofs.YtlpfmhikahlcoaaW.PrintLast Go.Proofs.YtlpfmhikahlcoaaW.PrintMore
attribute [local go_sem] max2_int min2_int max_two min_two max_three min_three max_four min_four
set_option linter.unusedVariables false
set_option linter.unusedSimpArgs false
mutual
def spec_TableOk.j0:Nat→Bool→Int→ByteArray→Option (Bool)
  | 0,_,_,_=>none
  | k + 1,x16,x102000,x102001=>if x16=true then (some false) else (spec_TableOk.l0 k 0 x102000 x102001)
def spec_TableOk.l0:Nat→Int→Int→ByteArray→Option (Bool)
  | 0,_,_,_=>none
  | k + 1,x3,x102000,x102001=>if x3 < (x102001.size:Int) then (if 0≤x3 then (if (bt x102001 x3)=48 then (spec_TableOk.l0 k (wrap64 (x3 + 1)) x102000 x102001) else (if (bt x102001 x3)=49 then (spec_TableOk.l0 k (wrap64 (x3 + 1)) x102000 x102001) else (some false))) else (none)) else (some true)
end
def spec_TableOk.f (k:Nat) (A1:Int) (A0:ByteArray):Option (Bool):=(spec_l01In.f A1 0 12).bind fun A9=>(if A9=true then ((spec_l01Pow2.f k A1).bind fun A5=>(spec_TableOk.j0 k ((A0.size:Int) != A5) A1 A0)) else (spec_TableOk.j0 k true A1 A0))
set_option maxHeartbeats 80000000 in
set_option maxRecDepth 100000 in
theorem spec_TableOk.calls (k:Nat) (A1:Int) (A0:ByteArray) (r:Bool) (w:World) (h:spec_TableOk.f k A1 A0=some r) :
  Calls Try.prog 105 #[.agg #[.int .i64 A1,.string A0]] w fun e w'=>e = .returned (.bool r)∧Below w.heap.size w w':=by
 have hu29:=Try.underlying29;have HB:=Aside0.mk (Below.refl w.heap.size w)
 have H:((spec_l01In.f A1 0 12).bind fun A9=>(if A9=true then ((spec_l01Pow2.f k A1).bind fun A5=>(spec_TableOk.j0 k ((A0.size:Int) != A5) A1 A0)) else (spec_TableOk.j0 k true A1 A0)))=some r:=h
 clear h;have HC2:=Aside0.mk H;clear H
 go_enter Try.func105,Try.ntmps105
 go_upto_region 1 with (first|((with_reducible refine gate_dst (N:=1) rfl ?_);(try (refine gate_guard (by rfl) ?_;dsimp only));refine bx (N:=1) (cs:=#[.int .i64 A1,.string A0]) (t:=29) ?_;intro A7 hg w3 hbox hb;have A3:=Aside0.mk (hbox);have Aa:=bz0 hg HB;have Ab:=bz0 hg HB;replace HB:=bs0 HB hb;clear hb hbox hg))
 repeat (go_quiet (first|((with_reducible refine gate_dst (N:=1) rfl ?_);(try (refine gate_guard (by rfl) ?_;dsimp only));refine bx (N:=1) (cs:=#[.int .i64 A1,.string A0]) (t:=29) ?_;intro A7 hg w3 hbox hb;have A3:=Aside0.mk (hbox);have Aa:=bz0 hg HB;have Ab:=bz0 hg HB;replace HB:=bs0 HB hb;clear hb hbox hg));go_upto_region 1 with (first|((with_reducible refine gate_dst (N:=1) rfl ?_);(try (refine gate_guard (by rfl) ?_;dsimp only));refine bx (N:=1) (cs:=#[.int .i64 A1,.string A0]) (t:=29) ?_;intro A7 hg w3 hbox hb;have A3:=Aside0.mk (hbox);have Aa:=bz0 hg HB;have Ab:=bz0 hg HB;replace HB:=bs0 HB hb;clear hb hbox hg)))
 (try simp only [Act.put,List.setIfInBounds_toArray,List.set_cons_zero,List.set_cons_succ])
 go_cut [16] (fun v16 wc=>∃ (kq:Nat) (A8:Bool),v16 = .bool A8∧Aside0 (spec_TableOk.j0 kq A8 A1 A0=some r)∧Aside0 (kq≤k)∧Aside0 (wc.heap[A7]? = some (.cells #[.int .i64 A1,.string A0] 29 (0,0)))∧Aside0 (Below w.heap.size w wc))
 case first =>
  have H:=HC2.out;clear HC2
  replace H:=Option.bind_eq_some_iff.mp H
  obtain ⟨A9,A40,H⟩:=H
  replace H:(if A9=true then ((spec_l01Pow2.f k A1).bind fun A5=>(spec_TableOk.j0 k ((A0.size:Int) != A5) A1 A0)) else (spec_TableOk.j0 k true A1 A0))=some r:=H
  have A4:=Aside0.mk A40;clear A40
  by_cases c5:A9=true
  ·subst c5
   have H1:((spec_l01Pow2.f k A1).bind fun A5=>(spec_TableOk.j0 k ((A0.size:Int) != A5) A1 A0))=some r:=by rw [if_pos rfl] at H;exact H
   clear H;have H:=H1;clear H1
   replace H:=Option.bind_eq_some_iff.mp H
   obtain ⟨A5,A60,H⟩:=H
   replace H:(spec_TableOk.j0 k ((A0.size:Int) != A5) A1 A0)=some r:=H
   have A6:=Aside0.mk A60;clear A60
   have H':=Aside0.mk H
   clear H;have hcz7__:=c2_ A3;have hfz7__:=f_ A3
   go_wp2_with (first|(go_at_call 63;(try simp only [i64_w,i32_w]);(with_reducible refine (spec_l01In.calls A1 0 12 true _ A4.out).mono ?_);rintro e w' ⟨rfl,⟨nd,rfl⟩⟩;(try exact dd))|(go_at_call 119;(try simp only [i64_w,i32_w]);(with_reducible refine (spec_l01Pow2.calls k A1 A5 _ A6.out).mono ?_);rintro e w' ⟨rfl,⟨nd,rfl⟩⟩;(try exact dd)))
   repeat (go_quiet (first|(go_at_call 63;(try simp only [i64_w,i32_w]);(with_reducible refine (spec_l01In.calls A1 0 12 true _ A4.out).mono ?_);rintro e w' ⟨rfl,⟨nd,rfl⟩⟩;(try exact dd))|(go_at_call 119;(try simp only [i64_w,i32_w]);(with_reducible refine (spec_l01Pow2.calls k A1 A5 _ A6.out).mono ?_);rintro e w' ⟨rfl,⟨nd,rfl⟩⟩;(try exact dd)));try go_wp2_with (first|(go_at_call 63;(try simp only [i64_w,i32_w]);(with_reducible refine (spec_l01In.calls A1 0 12 true _ A4.out).mono ?_);rintro e w' ⟨rfl,⟨nd,rfl⟩⟩;(try exact dd))|(go_at_call 119;(try simp only [i64_w,i32_w]);(with_reducible refine (spec_l01Pow2.calls k A1 A5 _ A6.out).mono ?_);rintro e w' ⟨rfl,⟨nd,rfl⟩⟩;(try exact dd))))
   go_meet
   case rel=>exact ⟨_,(((A0.size:Int) != A5)),(by first|rfl|(simp;done)|(simp [*];done)),H',⟨by first|omega|exact Nat.le_refl _⟩,⟨dr A3⟩,⟨by exact tb HB⟩⟩
  ·replace c5:=Bool.eq_false_iff.mpr c5
   subst c5
   have H1:(spec_TableOk.j0 k true A1 A0)=some r:=by rw [if_neg (show ¬ (false=true) by decide)] at H;exact H
   clear H;have H:=H1;clear H1
   have H':=Aside0.mk H
   clear H;have hcz8__:=c2_ A3;have hfz8__:=f_ A3
   go_wp2_with (first|(go_at_call 63;(try simp only [i64_w,i32_w]);(with_reducible refine (spec_l01In.calls A1 0 12 false _ A4.out).mono ?_);rintro e w' ⟨rfl,⟨nd,rfl⟩⟩;(try exact dd)))
   repeat (go_quiet (first|(go_at_call 63;(try simp only [i64_w,i32_w]);(with_reducible refine (spec_l01In.calls A1 0 12 false _ A4.out).mono ?_);rintro e w' ⟨rfl,⟨nd,rfl⟩⟩;(try exact dd)));try go_wp2_with (first|(go_at_call 63;(try simp only [i64_w,i32_w]);(with_reducible refine (spec_l01In.calls A1 0 12 false _ A4.out).mono ?_);rintro e w' ⟨rfl,⟨nd,rfl⟩⟩;(try exact dd))))
   go_meet
   case rel=>exact ⟨_,(true),(by first|rfl|(simp;done)|(simp [*];done)),H',⟨by first|omega|exact Nat.le_refl _⟩,⟨dr A3⟩,⟨by exact tb HB⟩⟩
 case rest =>
  clear HC2
  (try clear c1);(try clear p2);(try clear c5);(try clear hcz7__);(try clear hcz8__);(try clear hfz7__);(try clear hfz8__)
  obtain ⟨kq,A8,rfl,HA,HJ1,A3,HB⟩:=hcut
  cases kq with
    | zero=>exact absurd HA.out (by simp [spec_TableOk.j0])
    | succ kj1 =>
   have H:=HA.out;clear HA
   simp only [spec_TableOk.j0] at H
   by_cases c9:A8=true
   ·subst c9
    have H1:(some false)=some r:=by rw [if_pos rfl] at H;exact H
    clear H;have H:=H1;clear H1
    obtain rfl:=Option.some.inj H
    go_wp2
    repeat (go_quiet (fail);try go_wp2)
    go_ret
    exact ⟨er,tb HB⟩
   ·replace c9:=Bool.eq_false_iff.mpr c9
    subst c9
    have H1:(spec_TableOk.l0 kj1 0 A1 A0)=some r:=by rw [if_neg (show ¬ (false=true) by decide)] at H;exact H
    clear H;have H:=H1;clear H1
    have H':=Aside0.mk H
    clear H
    go_wp2
    repeat (go_quiet (fail);try go_wp2)
    go_loopg [3] kj1 (fun kq v3 w'=>∃ (A2:Int),v3 = .int .i64 A2∧Aside0 (spec_TableOk.l0 kq A2 A1 A0=some r)∧Aside0 (kq≤kj1)∧Aside0 (w'.heap[A7]? = some (.cells #[.int .i64 A1,.string A0] 29 (0,0)))∧Aside0 (Below w.heap.size w w'))
    case atStart=>exact ⟨(0),(by first|rfl|(simp;done)|(simp [*];done)),H',⟨Nat.le_refl _⟩,⟨dr A3⟩,⟨by exact tb HB⟩⟩
    case round =>
     clear H'
     (try clear c1);(try clear p2);(try clear c5);(try clear c9);(try clear hcz7__);(try clear hcz8__);(try clear hfz7__);(try clear hfz8__);(try clear p2)
     obtain ⟨A2,rfl,HA,HK2,A3,HB⟩:=hrel
     cases gk with
          | zero=>exact absurd HA.out (by simp [spec_TableOk.l0])
          | succ k2 =>
      have H:=HA.out;clear HA
      simp only [spec_TableOk.l0] at H
      by_cases c10:A2 < (A0.size:Int)
      ·rw [if_pos c10] at H
       have c10b0:decide (A2 < (A0.size:Int))=true:=decide_eq_true c10;clear c10
       by_cases c11:0≤A2
       ·rw [if_pos c11] at H
        have c11b0:decide (0≤A2)=true:=decide_eq_true c11;clear c11
        by_cases c13:(bt A0 A2)=48
        ·rw [if_pos c13] at H
         have c13b0:((bt A0 A2) == 48)=true:=beq_iff_eq.mpr c13;have c13b1:((bt A0 A2) != 48)=false:=bne_eq_false_iff_eq.mpr c13;clear c13
         have H':=Aside0.mk H
         clear H;have hcz14__:=c2_ A3;have hfz14__:=f_ A3
         have p12:0≤(A2:Int):=od
         have q12:A2 < (A0.size:Int):=od
         have hx12:=bt_at A0 A2
         replace p12:=eq_true p12
         replace q12:=eq_true q12
         go_wp2
         repeat (go_quiet (fail);try go_wp2)
         go_roundg k2
         case measure=>have:=HJ1.out;have:=HK2.out;omega
         case rel=>exact ⟨(wrap64 (A2 + 1)),(by first|rfl|(simp;done)|(simp [*];done)),H',⟨by have:=HJ1.out;have:=HK2.out;omega⟩,⟨dr A3⟩,⟨by exact tb HB⟩⟩
        ·rw [if_neg c13] at H
         have c13b0:((bt A0 A2) == 48)=false:=beq_eq_false_iff_ne.mpr c13;have c13b1:((bt A0 A2) != 48)=true:=bne_iff_ne.mpr c13
         by_cases c16:(bt A0 A2)=49
         ·rw [if_pos c16] at H
          have c16b0:((bt A0 A2) == 49)=true:=beq_iff_eq.mpr c16;have c16b1:((bt A0 A2) != 49)=false:=bne_eq_false_iff_eq.mpr c16;clear c16
          have H':=Aside0.mk H
          clear H;have hcz17__:=c2_ A3;have hfz17__:=f_ A3
          have p12:0≤(A2:Int):=od
          have q12:A2 < (A0.size:Int):=od
          have hx12:=bt_at A0 A2
          replace p12:=eq_true p12
          replace q12:=eq_true q12
          have p15:0≤(A2:Int):=od
          have q15:A2 < (A0.size:Int):=od
          have hx15:=bt_at A0 A2
          replace p15:=eq_true p15
          replace q15:=eq_true q15
          go_wp2
          repeat (go_quiet (fail);try go_wp2)
          go_roundg k2
          case measure=>have:=HJ1.out;have:=HK2.out;omega
          case rel=>exact ⟨(wrap64 (A2 + 1)),(by first|rfl|(simp;done)|(simp [*];done)),H',⟨by have:=HJ1.out;have:=HK2.out;omega⟩,⟨dr A3⟩,⟨by exact tb HB⟩⟩
         ·rw [if_neg c16] at H
          have c16b0:((bt A0 A2) == 49)=false:=beq_eq_false_iff_ne.mpr c16;have c16b1:((bt A0 A2) != 49)=true:=bne_iff_ne.mpr c16
          obtain rfl:=Option.some.inj H
          have hcz18__:=c2_ A3;have hfz18__:=f_ A3
          have p12:0≤(A2:Int):=od
          have q12:A2 < (A0.size:Int):=od
          have hx12:=bt_at A0 A2
          replace p12:=eq_true p12
          replace q12:=eq_true q12
          have p15:0≤(A2:Int):=od
          have q15:A2 < (A0.size:Int):=od
          have hx15:=bt_at A0 A2
          replace p15:=eq_true p15
          replace q15:=eq_true q15
          go_wp2
          repeat (go_quiet (fail);try go_wp2)
          go_ret
          exact ⟨er,tb HB⟩
       ·rw [if_neg c11] at H
        exact absurd H (by simp)
      ·rw [if_neg c10] at H
       have c10b0:decide (A2 < (A0.size:Int))=false:=decide_eq_false c10;clear c10
       obtain rfl:=Option.some.inj H
       have hcz19__:=c2_ A3;have hfz19__:=f_ A3
       go_wp2
       repeat (go_quiet (fail);try go_wp2)
       go_ret
       exact ⟨er,tb HB⟩
end Go.Proofs.Ytlpfmhikahlcoaa.G
namespace Go.Proofs.Ytlpfmhikahlcoaa.G
open Go.Proofs.Ytlpfmhikahlcoaa.Sh
open Go.RowKit Go.Proofs.YtlpfmhikahlcoaaW.PrintWords Go.Proofs.YtlpfmhikahlcoaaW.PrintLast Go.Proofs.YtlpfmhikahlcoaaW.PrintMore
attribute [local go_sem] max2_int min2_int max_two min_two max_three min_three max_four min_four
set_option linter.unusedVariables false
set_option linter.unusedSimpArgs false
def spec_l08Ok.f (k:Nat) (l0:List Bool) (a1_0:Int) (a1_1:ByteArray):Option (Bool):=(spec_TableOk.f k a1_0 a1_1).bind fun A4=>(if A4=true then (some ((l0.length:Int) == a1_0)) else (some false))
set_option maxHeartbeats 8000000 in
set_option maxRecDepth 100000 in
theorem spec_l08Ok.calls (k:Nat) (A0:Option Addr) (c0:Nat) (l0:List Bool) (a1_0:Int) (a1_1:ByteArray) (r:Bool) (w:World) (hr0:Kd.C Kd.bool w A0 l0.length l0) (hc0:l0.length≤c0) (h:spec_l08Ok.f k l0 a1_0 a1_1=some r) :
    Calls Try.prog 57 #[.slice A0 l0.length c0,.agg #[.int .i64 a1_0,.string a1_1]] w fun e w'=>e = .returned (.bool r)∧Below w.heap.size w w':=by
  have hu29:=Try.underlying29
  have HR0:=Aside0.mk hr0
  have HC0:=Aside0.mk hc0
  clear hr0 hc0
  have HB:=Aside0.mk (Below.refl w.heap.size w)
  have H:((spec_TableOk.f k a1_0 a1_1).bind fun A4=>(if A4=true then (some ((l0.length:Int) == a1_0)) else (some false)))=some r:=h
  clear h
  replace H:=Option.bind_eq_some_iff.mp H
  obtain ⟨A4,A30,H⟩:=H
  replace H:(if A4=true then (some ((l0.length:Int) == a1_0)) else (some false))=some r:=H
  have A3:=Aside0.mk A30
  clear A30
  by_cases c4:A4=true
  · subst c4
    have H1:(some ((l0.length:Int) == a1_0))=some r:=by rw [if_pos rfl] at H;exact H
    clear H
    have H:=H1
    clear H1
    obtain rfl:=Option.some.inj H
    go_enter Try.func57,Try.ntmps57
    go_wp2_with (first|((with_reducible refine gate_dst (N:=3) rfl ?_);(try (refine gate_guard (by rfl) ?_;dsimp only));refine bx (N:=3) (cs:=#[.int .i64 a1_0,.string a1_1]) (t:=29) ?_;intro A2 hg w5 hbox hb;have A1:=Aside0.mk (hbox);have A5:=Aside0.mk ((by rw [hg];exact (below_size (tb HB)):w.heap.size≤A2));have A6:=Aside0.mk ((by rw [hg];exact (below_size (tb HB)):w.heap.size≤A2));replace HB:=Aside0.mk (below_step (tb HB) hb);clear hb hbox hg;have hcz6__:=c2_ A1;have hfz6__:=f_ A1)|((with_reducible refine gate_callee (f:=105) rfl ?_);refine goesL_ (some 6) rfl rfl Try.func105 (by kernel_rfl) rfl #[.agg #[.int .i64 a1_0,.string a1_1]] rfl ml ?_;(with_reducible refine (spec_TableOk.calls k a1_0 a1_1 true _ A3.out).mono ?_);rintro e w7 ⟨rfl,hb⟩;refine ⟨_,rfl,?_⟩;replace A1:=Aside0.mk (blk_below (g:=A2) (o := .cells #[.int .i64 a1_0,.string a1_1] 29 (0,0)) (dr A1) hb);replace HB:=Aside0.mk (below_step (tb HB) hb);(try clear hb);(try clear hb2);(try clear hk);(try clear hi);have hcz8__:=c2_ A1;have hfz8__:=f_ A1))
    go_ret
    exact ⟨er,tb HB⟩
  · replace c4:=Bool.eq_false_iff.mpr c4
    subst c4
    have H1:(some false)=some r:=by rw [if_neg (show ¬ (false=true) by decide)] at H;exact H
    clear H
    have H:=H1
    clear H1
    obtain rfl:=Option.some.inj H
    go_enter Try.func57,Try.ntmps57
    go_wp2_with (first|((with_reducible refine gate_dst (N:=3) rfl ?_);(try (refine gate_guard (by rfl) ?_;dsimp only));refine bx (N:=3) (cs:=#[.int .i64 a1_0,.string a1_1]) (t:=29) ?_;intro A2 hg w9 hbox hb;have A1:=Aside0.mk (hbox);have A5:=Aside0.mk ((by rw [hg];exact (below_size (tb HB)):w.heap.size≤A2));have A6:=Aside0.mk ((by rw [hg];exact (below_size (tb HB)):w.heap.size≤A2));replace HB:=Aside0.mk (below_step (tb HB) hb);clear hb hbox hg;have hcz10__:=c2_ A1;have hfz10__:=f_ A1)|((with_reducible refine gate_callee (f:=105) rfl ?_);refine goesL_ (some 6) rfl rfl Try.func105 (by kernel_rfl) rfl #[.agg #[.int .i64 a1_0,.string a1_1]] rfl ml ?_;(with_reducible refine (spec_TableOk.calls k a1_0 a1_1 false _ A3.out).mono ?_);rintro e w11 ⟨rfl,hb⟩;refine ⟨_,rfl,?_⟩;replace A1:=Aside0.mk (blk_below (g:=A2) (o := .cells #[.int .i64 a1_0,.string a1_1] 29 (0,0)) (dr A1) hb);replace HB:=Aside0.mk (below_step (tb HB) hb);(try clear hb);(try clear hb2);(try clear hk);(try clear hi)))
    go_ret
    exact ⟨er,tb HB⟩
end Go.Proofs.Ytlpfmhikahlcoaa.G
