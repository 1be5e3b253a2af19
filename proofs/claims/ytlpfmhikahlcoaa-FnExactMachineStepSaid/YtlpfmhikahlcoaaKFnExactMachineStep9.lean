-- texts of this session, merged by a program of it (wip/gen/pack.py)
import Derived.Test.YtlpfmhikahlcoaaKFnExactMachineStep2
import Derived.Test.YtlpfmhikahlcoaaKFnExactMachineStep7
import Derived.Test.YtlpfmhikahlcoaaKFnExactMachineStep8
namespace Go.Proofs.Ytlpfmhikahlcoaa.G
open Go.Proofs.Ytlpfmhikahlcoaa.Sh Go.RowKit Go.Proofs.YtlpfmhikahlcoaaW.PrintWords Go.Proofs.YtlpfmhikahlcoaaW.PrintLast Go.Proofs.YtlpfmhikahlcoaaW.PrintMore
attribute [local go_sem] max2_int min2_int max_two min_two max_three min_three max_four min_four
set_option linter.unusedVariables false
set_option linter.unusedSimpArgs false
def spec_Half.f (k:Nat) (A5:Int) (A0:ByteArray) (a1:Int):Option (Int × ByteArray × Bool):=(spec_TableOk.f k A5 A0).bind fun Ac=>(if Ac=true then (if A5=0 then (some (0,(⟨#[]⟩:ByteArray),false)) else ((spec_l01In.f a1 0 1).bind fun Ab=>(if Ab=true then (if 0≤(wrap64 (a1 * (wrap64 ((A0.size:Int) / 2)))) then (if (wrap64 (a1 * (wrap64 ((A0.size:Int) / 2))))≤(wrap64 ((wrap64 (a1 * (wrap64 ((A0.size:Int) / 2)))) + (wrap64 ((A0.size:Int) / 2)))) then (if (wrap64 ((wrap64 (a1 * (wrap64 ((A0.size:Int) / 2)))) + (wrap64 ((A0.size:Int) / 2))))≤(A0.size:Int) then (some (wrap64 (A5 - 1),A0.extract ((wrap64 (a1 * (wrap64 ((A0.size:Int) / 2)))):Int).toNat ((wrap64 ((wrap64 (a1 * (wrap64 ((A0.size:Int) / 2)))) + (wrap64 ((A0.size:Int) / 2)))):Int).toNat,true)) else (none)) else (none)) else (none)) else (some (0,(⟨#[]⟩:ByteArray),false))))) else (some (0,(⟨#[]⟩:ByteArray),false)))
def spec_Half.T4:Bool × List (List Nat × List Nat):=(true,[([],[]),([0],[0]),([1],[1]),([],[]),([3],[3]),([],[]),([],[]),([5,6],[5,6]),([],[]),([],[]),([8,9],[8,9]),([],[]),([10,11],[10,11]),([4,7,12],[4,7,12]),([2,13],[2,13]),([14,0,1,2,3,4,5,6,7,8,9,10,11,12,13,14],[14]),([15,0,1,2,3,4,5,6,7,8,9,10,11,12,13,14,15],[])])
def spec_Half.B4:List Nat:=[0,1,3,0,8,0,0,96,0,0,768,0,3840,8184,16383,32767,65535]
theorem spec_Half.tab4:rtab .any (opsOf Try.f61 4)=spec_Half.T4:=by kernel_rfl
theorem spec_Half.bits4:waitsOk spec_Half.T4.2 spec_Half.B4=true:=by kernel_rfl
set_option maxHeartbeats 80000000 in
set_option maxRecDepth 100000 in
theorem spec_Half.calls (k:Nat) (A5:Int) (A0:ByteArray) (a1:Int) (r1:Int) (r2:ByteArray) (r3:Bool) (w:World) (h:spec_Half.f k A5 A0 a1=some (r1,r2,r3)) :
  Calls Try.prog 61 #[.agg #[.int .i64 A5,.string A0],.int .i64 a1] w fun e w'=>e = .returned (.tuple #[.agg #[.int .i64 r1,.string r2],.bool r3])∧Below w.heap.size w w':=by
 have hu29:=Try.underlying29;have HB:=Aside0.mk (Below.refl w.heap.size w)
 have H:((spec_TableOk.f k A5 A0).bind fun Ac=>(if Ac=true then (if A5=0 then (some (0,(⟨#[]⟩:ByteArray),false)) else ((spec_l01In.f a1 0 1).bind fun Ab=>(if Ab=true then (if 0≤(wrap64 (a1 * (wrap64 ((A0.size:Int) / 2)))) then (if (wrap64 (a1 * (wrap64 ((A0.size:Int) / 2))))≤(wrap64 ((wrap64 (a1 * (wrap64 ((A0.size:Int) / 2)))) + (wrap64 ((A0.size:Int) / 2)))) then (if (wrap64 ((wrap64 (a1 * (wrap64 ((A0.size:Int) / 2)))) + (wrap64 ((A0.size:Int) / 2))))≤(A0.size:Int) then (some (wrap64 (A5 - 1),A0.extract ((wrap64 (a1 * (wrap64 ((A0.size:Int) / 2)))):Int).toNat ((wrap64 ((wrap64 (a1 * (wrap64 ((A0.size:Int) / 2)))) + (wrap64 ((A0.size:Int) / 2)))):Int).toNat,true)) else (none)) else (none)) else (none)) else (some (0,(⟨#[]⟩:ByteArray),false))))) else (some (0,(⟨#[]⟩:ByteArray),false))))=some (r1,r2,r3):=h
 clear h
 replace H:=Option.bind_eq_some_iff.mp H
 obtain ⟨Ac,A30,H⟩:=H
 replace H:(if Ac=true then (if A5=0 then (some (0,(⟨#[]⟩:ByteArray),false)) else ((spec_l01In.f a1 0 1).bind fun Ab=>(if Ab=true then (if 0≤(wrap64 (a1 * (wrap64 ((A0.size:Int) / 2)))) then (if (wrap64 (a1 * (wrap64 ((A0.size:Int) / 2))))≤(wrap64 ((wrap64 (a1 * (wrap64 ((A0.size:Int) / 2)))) + (wrap64 ((A0.size:Int) / 2)))) then (if (wrap64 ((wrap64 (a1 * (wrap64 ((A0.size:Int) / 2)))) + (wrap64 ((A0.size:Int) / 2))))≤(A0.size:Int) then (some (wrap64 (A5 - 1),A0.extract ((wrap64 (a1 * (wrap64 ((A0.size:Int) / 2)))):Int).toNat ((wrap64 ((wrap64 (a1 * (wrap64 ((A0.size:Int) / 2)))) + (wrap64 ((A0.size:Int) / 2)))):Int).toNat,true)) else (none)) else (none)) else (none)) else (some (0,(⟨#[]⟩:ByteArray),false))))) else (some (0,(⟨#[]⟩:ByteArray),false)))=some (r1,r2,r3):=H
 have A3:=Aside0.mk A30;clear A30
 by_cases c4:Ac=true
 ·subst c4
  have H1:(if A5=0 then (some (0,(⟨#[]⟩:ByteArray),false)) else ((spec_l01In.f a1 0 1).bind fun Ab=>(if Ab=true then (if 0≤(wrap64 (a1 * (wrap64 ((A0.size:Int) / 2)))) then (if (wrap64 (a1 * (wrap64 ((A0.size:Int) / 2))))≤(wrap64 ((wrap64 (a1 * (wrap64 ((A0.size:Int) / 2)))) + (wrap64 ((A0.size:Int) / 2)))) then (if (wrap64 ((wrap64 (a1 * (wrap64 ((A0.size:Int) / 2)))) + (wrap64 ((A0.size:Int) / 2))))≤(A0.size:Int) then (some (wrap64 (A5 - 1),A0.extract ((wrap64 (a1 * (wrap64 ((A0.size:Int) / 2)))):Int).toNat ((wrap64 ((wrap64 (a1 * (wrap64 ((A0.size:Int) / 2)))) + (wrap64 ((A0.size:Int) / 2)))):Int).toNat,true)) else (none)) else (none)) else (none)) else (some (0,(⟨#[]⟩:ByteArray),false)))))=some (r1,r2,r3):=by rw [if_pos rfl] at H;exact H
  clear H;have H:=H1;clear H1
  by_cases c5:A5=0
  ·rw [if_pos c5] at H
   have c5b0:(A5 == 0)=true:=beq_iff_eq.mpr c5;have c5b1:(A5 != 0)=false:=bne_eq_false_iff_eq.mpr c5;clear c5
   simp only [Option.some.injEq,Prod.mk.injEq] at H
   obtain ⟨rfl,rfl,rfl⟩:=H
   go_enter Try.func61,Try.ntmps61
   go_wp2_with (first|((with_reducible refine gate_dst (N:=2) rfl ?_);refine bx (N:=2) (cs:=#[.int .i64 A5,.string A0]) (t:=29) ?_;intro A9 hg w6 hbox hb;have A1:=Aside0.mk (hbox);have Ad:=bz0 hg HB;have A7:=bz0 hg HB;replace HB:=bs0 HB hb;clear hb hbox hg)|((with_reducible refine gate_dst (N:=4) rfl ?_);refine bx (N:=4) (cs:=#[.int .i64 0,.string (⟨#[]⟩:ByteArray)]) (t:=29) ?_;intro A8 hg w7 hbox hb;have A2:=Aside0.mk (hbox);have Ae:=bz1 hg HB A7;have Aa:=bz1 hg HB A7;replace HB:=bs1 HB hb A7;have A4:=nl hg A1;have A6:=ng hg A1;replace A1:=bb A1 hb;clear hb hbox hg;have hnb8:=A4.out;have hnc8:=A6.out;have hcz9__:=c2_ A1;have hfz9__:=f_ A1)|((with_reducible refine gate_callee (f:=105) rfl ?_);refine goesL_ (some 8) rfl rfl Try.func105 (by kernel_rfl) rfl #[.agg #[.int .i64 A5,.string A0]] rfl ml ?_;(with_reducible refine (spec_TableOk.calls k A5 A0 true _ A3.out).mono ?_);rintro e w10 ⟨rfl,hb⟩;refine ⟨_,rfl,?_⟩;replace A1:=bb A1 hb;replace A2:=bb A2 hb;replace HB:=bs2 HB hb A7 Aa;(try clear hb);(try clear hb2);(try clear hk);(try clear hi);have hcz11__:=c2_ A1;have hfz11__:=f_ A1;have hcz12__:=c2_ A2;have hfz12__:=f_ A2))
   refine bodyPost_ret (results_ct rfl _ _ A8 29 #[.int .i64 0,.string (⟨#[]⟩:ByteArray)] (0,0) _ rfl (by (with_reducible repeat (first|refine blk_drewN ?_ _|refine blk_drew ?_|refine blk_alloc ?_ _));exact bp2 A2.out) Try.underlying29 rfl (by kernel_rfl)) rfl ?_
   exact ⟨er,tb HB⟩
  ·rw [if_neg c5] at H
   have c5b0:(A5 == 0)=false:=beq_eq_false_iff_ne.mpr c5;have c5b1:(A5 != 0)=true:=bne_iff_ne.mpr c5
   replace H:=Option.bind_eq_some_iff.mp H
   obtain ⟨Ab,A130,H⟩:=H
   replace H:(if Ab=true then (if 0≤(wrap64 (a1 * (wrap64 ((A0.size:Int) / 2)))) then (if (wrap64 (a1 * (wrap64 ((A0.size:Int) / 2))))≤(wrap64 ((wrap64 (a1 * (wrap64 ((A0.size:Int) / 2)))) + (wrap64 ((A0.size:Int) / 2)))) then (if (wrap64 ((wrap64 (a1 * (wrap64 ((A0.size:Int) / 2)))) + (wrap64 ((A0.size:Int) / 2))))≤(A0.size:Int) then (some (wrap64 (A5 - 1),A0.extract ((wrap64 (a1 * (wrap64 ((A0.size:Int) / 2)))):Int).toNat ((wrap64 ((wrap64 (a1 * (wrap64 ((A0.size:Int) / 2)))) + (wrap64 ((A0.size:Int) / 2)))):Int).toNat,true)) else (none)) else (none)) else (none)) else (some (0,(⟨#[]⟩:ByteArray),false)))=some (r1,r2,r3):=H
   have A13:=Aside0.mk A130;clear A130
   by_cases c14:Ab=true
   ·subst c14
    have H1:(if 0≤(wrap64 (a1 * (wrap64 ((A0.size:Int) / 2)))) then (if (wrap64 (a1 * (wrap64 ((A0.size:Int) / 2))))≤(wrap64 ((wrap64 (a1 * (wrap64 ((A0.size:Int) / 2)))) + (wrap64 ((A0.size:Int) / 2)))) then (if (wrap64 ((wrap64 (a1 * (wrap64 ((A0.size:Int) / 2)))) + (wrap64 ((A0.size:Int) / 2))))≤(A0.size:Int) then (some (wrap64 (A5 - 1),A0.extract ((wrap64 (a1 * (wrap64 ((A0.size:Int) / 2)))):Int).toNat ((wrap64 ((wrap64 (a1 * (wrap64 ((A0.size:Int) / 2)))) + (wrap64 ((A0.size:Int) / 2)))):Int).toNat,true)) else (none)) else (none)) else (none))=some (r1,r2,r3):=by rw [if_pos rfl] at H;exact H
    clear H;have H:=H1;clear H1
    obtain ⟨ji15,hji15⟩:∃ j_:Int,(wrap64 (a1 * (wrap64 ((A0.size:Int) / 2))))=j_:=⟨_,rfl⟩
    replace H:(if 0≤(ji15) then (if (ji15)≤(wrap64 ((ji15) + (wrap64 ((A0.size:Int) / 2)))) then (if (wrap64 ((ji15) + (wrap64 ((A0.size:Int) / 2))))≤(A0.size:Int) then (some (wrap64 (A5 - 1),A0.extract ((ji15):Int).toNat ((wrap64 ((ji15) + (wrap64 ((A0.size:Int) / 2)))):Int).toNat,true)) else (none)) else (none)) else (none))=some (r1,r2,r3):=by first|(rw [hji15] at H;exact H)|(simp only [hji15] at H ⊢;exact H)
    (try rw [hji15] at A3)
    (try rw [hji15] at A13)
    have hji15w:(IntKind.i64.wrap (a1 * (wrap64 ((A0.size:Int) / 2))))=ji15:=(i64_w _).trans hji15
    by_cases c16:0≤(ji15)
    ·rw [if_pos c16] at H
     have c16b0:=eq_true c16;have c16b1:decide (0≤(ji15))=true:=decide_eq_true c16;clear c16
     by_cases c17:(ji15)≤(wrap64 ((ji15) + (wrap64 ((A0.size:Int) / 2))))
     ·rw [if_pos c17] at H
      have c17b0:=eq_true c17;have c17b1:decide ((ji15)≤(wrap64 ((ji15) + (wrap64 ((A0.size:Int) / 2)))))=true:=decide_eq_true c17
      by_cases c18:(wrap64 ((ji15) + (wrap64 ((A0.size:Int) / 2))))≤(A0.size:Int)
      ·rw [if_pos c18] at H
       have c18b0:=eq_true c18;have c18b1:decide ((wrap64 ((ji15) + (wrap64 ((A0.size:Int) / 2))))≤(A0.size:Int))=true:=decide_eq_true c18
       simp only [Option.some.injEq,Prod.mk.injEq] at H
       obtain ⟨rfl,rfl,rfl⟩:=H
       go_enter Try.func61,Try.ntmps61
       try go_wp2_with (first|((with_reducible refine gate_dst (N:=2) rfl ?_);refine bx (N:=2) (cs:=#[.int .i64 A5,.string A0]) (t:=29) ?_;intro A9 hg w19 hbox hb;have A1:=Aside0.mk (hbox);have Ad:=bz0 hg HB;have A7:=bz0 hg HB;replace HB:=bs0 HB hb;clear hb hbox hg)|((with_reducible refine gate_dst (N:=4) rfl ?_);refine bx (N:=4) (cs:=#[.int .i64 0,.string (⟨#[]⟩:ByteArray)]) (t:=29) ?_;intro A8 hg w20 hbox hb;have A2:=Aside0.mk (hbox);have Ae:=bz1 hg HB A7;have Aa:=bz1 hg HB A7;replace HB:=bs1 HB hb A7;have A4:=nl hg A1;have A6:=ng hg A1;replace A1:=bb A1 hb;clear hb hbox hg;have hnb21:=A4.out;have hnc21:=A6.out;have hcz22__:=c2_ A1;have hfz22__:=f_ A1)|((with_reducible refine gate_callee (f:=105) rfl ?_);refine goesL_ (some 8) rfl rfl Try.func105 (by kernel_rfl) rfl #[.agg #[.int .i64 A5,.string A0]] rfl ml ?_;(with_reducible refine (spec_TableOk.calls k A5 A0 true _ A3.out).mono ?_);rintro e w23 ⟨rfl,hb⟩;refine ⟨_,rfl,?_⟩;replace A1:=bb A1 hb;replace A2:=bb A2 hb;replace HB:=bs2 HB hb A7 Aa;(try clear hb);(try clear hb2);(try clear hk);(try clear hi);have hcz24__:=c2_ A1;have hfz24__:=f_ A1)|(go_at_call 63;(try simp only [i64_w,i32_w]);(with_reducible refine (spec_l01In.calls a1 0 1 true _ A13.out).mono ?_);rintro e w' ⟨rfl,⟨nd,rfl⟩⟩;(try (rw [drewN_self w23];generalize hq_:World.drewN w23 _=w23;have n0_:Aside0 (w23.heap[A9]? = some (.cells #[.int .i64 A5,.string A0] 29 (0,0))):=⟨by rw [← hq_];exact (dr A1)⟩;have n1_:Aside0 (w23.heap[A8]? = some (.cells #[.int .i64 0,.string (⟨#[]⟩:ByteArray)] 29 (0,0))):=⟨by rw [← hq_];exact (dr A2)⟩;have n2_:Aside0 (Below w.heap.size w w23):=⟨by rw [← hq_];exact (tb HB)⟩;clear A1 A2 HB hq_;have A1:=n0_;have A2:=n1_;have HB:=n2_;clear n0_ n1_ n2_));(try (have hcz25__:=c2_ A1;have hfz25__:=f_ A1))))
       replace A1:=Aside0.mk (blk_drew A1.out);replace A2:=Aside0.mk (blk_drew A2.out);replace HB:=Aside0.mk (below_drew1 HB.out)
       refine start_ (n:=17) (S:=fun w'=>w'.cell? ⟨A9,0,none⟩=some (.int .i64 A5)∧w'.cell? ⟨A9,1,none⟩=some (.string A0)) (ds:=[]) #[false,false,false,false,false,false,false,false,false,false,false,false,false,false,false,false,false] (by kernel_rfl) rfl rfl ⟨(blk_cell A1.out 0).trans rfl,(blk_cell A1.out 1).trans rfl⟩ (fun hHeld=>?_);refine with_tabW spec_Half.tab4 spec_Half.bits4 (fun HT_ HW_=>?_)
       generalize w23.drew=w26 at A1 A2 HB hHeld ⊢
       refine pure_ (i:=0) (N:=some 25) (v:=?_) (a':=?_) #[true,false,false,false,false,false,false,false,false,false,false,false,false,false,false,false,false] rfl rfl (any_of HT_.out (by kernel_rfl)) (fun _ _ _ h=>h) (Or.inl ⟨by rfl,?_⟩) ?_ ?_
       rotate_left
       ·intro w'
        go_simp
        with_reducible rfl
       rotate_left
       ·simp only [Act.put,List.setIfInBounds_toArray,List.set_cons_zero,List.set_cons_succ,i64_w,i32_w]
        rfl
       refine pure_ (i:=3) (N:=some 28) (v:=?_) (a':=?_) #[true,false,false,true,false,false,false,false,false,false,false,false,false,false,false,false,false] rfl rfl (any_of HT_.out (by kernel_rfl)) (fun _ _ _ h=>h) (Or.inl ⟨by rfl,?_⟩) ?_ ?_
       rotate_left
       ·intro w'
        go_simp
        with_reducible rfl
       rotate_left
       ·simp only [Act.put,List.setIfInBounds_toArray,List.set_cons_zero,List.set_cons_succ,i64_w,i32_w]
        rfl
       refine pure_ (i:=5) (N:=some 30) (v:=?_) (a':=?_) #[true,false,false,true,false,true,false,false,false,false,false,false,false,false,false,false,false] rfl rfl (any_of HT_.out (by kernel_rfl)) (fun _ _ _ h=>h) (Or.inl ⟨by rfl,?_⟩) ?_ ?_
       rotate_left
       ·intro w'
        go_simp
        with_reducible rfl
       rotate_left
       ·simp only [Act.put,List.setIfInBounds_toArray,List.set_cons_zero,List.set_cons_succ,i64_w,i32_w]
        rfl
       refine pure_ (i:=6) (N:=some 31) (v:=?_) (a':=?_) #[true,false,false,true,false,true,true,false,false,false,false,false,false,false,false,false,false] rfl rfl (any_of HT_.out (by kernel_rfl)) (fun _ _ _ h=>h) (Or.inl ⟨by rfl,?_⟩) ?_ ?_
       rotate_left
       ·intro w'
        go_simp
        with_reducible rfl
       rotate_left
       ·simp only [Act.put,List.setIfInBounds_toArray,List.set_cons_zero,List.set_cons_succ,i64_w,i32_w]
        rfl
       refine pure_ (i:=7) (N:=some 32) (v:=?_) (a':=?_) #[true,false,false,true,false,true,true,true,false,false,false,false,false,false,false,false,false] rfl rfl (any_of HT_.out (by kernel_rfl)) (fun _ _ _ h=>h) (Or.inl ⟨by rfl,?_⟩) ?_ ?_
       rotate_left
       ·intro w'
        go_simp
        with_reducible rfl
       rotate_left
       ·simp only [Act.put,List.setIfInBounds_toArray,List.set_cons_zero,List.set_cons_succ,i64_w,i32_w]
        rfl
       refine pure_ (i:=8) (N:=some 33) (v:=?_) (a':=?_) #[true,false,false,true,false,true,true,true,true,false,false,false,false,false,false,false,false] rfl rfl (any_of HT_.out (by kernel_rfl)) (fun _ _ _ h=>h) (Or.inl ⟨by rfl,?_⟩) ?_ ?_
       rotate_left
       ·intro w'
        go_simp
        with_reducible rfl
       rotate_left
       ·simp only [Act.put,List.setIfInBounds_toArray,List.set_cons_zero,List.set_cons_succ,i64_w,i32_w]
        rfl
       refine pure_ (i:=9) (N:=some 34) (v:=?_) (a':=?_) #[true,false,false,true,false,true,true,true,true,true,false,false,false,false,false,false,false] rfl rfl (any_of HT_.out (by kernel_rfl)) (fun _ _ _ h=>h) (Or.inl ⟨by rfl,?_⟩) ?_ ?_
       rotate_left
       ·intro w'
        go_simp
        with_reducible rfl
       rotate_left
       ·simp only [Act.put,List.setIfInBounds_toArray,List.set_cons_zero,List.set_cons_succ,i64_w,i32_w]
        rfl
       refine pure_ (i:=10) (N:=some 35) (v:=?_) (a':=?_) #[true,false,false,true,false,true,true,true,true,true,true,false,false,false,false,false,false] rfl rfl (any_of HT_.out (by kernel_rfl)) (fun _ _ _ h=>h) (Or.inl ⟨by rfl,?_⟩) ?_ ?_
       rotate_left
       ·intro w'
        go_simp
        with_reducible rfl
       rotate_left
       ·simp only [Act.put,List.setIfInBounds_toArray,List.set_cons_zero,List.set_cons_succ,i64_w,i32_w]
        rfl
       refine pure_ (i:=11) (N:=some 36) (v:=?_) (a':=?_) #[true,false,false,true,false,true,true,true,true,true,true,true,false,false,false,false,false] rfl rfl (any_of HT_.out (by kernel_rfl)) (fun _ _ _ h=>h) (Or.inl ⟨by rfl,?_⟩) ?_ ?_
       rotate_left
       ·intro w'
        go_simp
        with_reducible rfl
       rotate_left
       ·simp only [Act.put,List.setIfInBounds_toArray,List.set_cons_zero,List.set_cons_succ,i64_w,i32_w]
        rfl
       refine pure_ (i:=12) (N:=some 37) (v:=?_) (a':=?_) #[true,false,false,true,false,true,true,true,true,true,true,true,true,false,false,false,false] rfl rfl (any_of HT_.out (by kernel_rfl)) (fun _ _ _ h=>h) (Or.inl ⟨by rfl,?_⟩) ?_ ?_
       rotate_left
       ·intro w'
        go_simp
        with_reducible rfl
       rotate_left
       ·simp only [Act.put,List.setIfInBounds_toArray,List.set_cons_zero,List.set_cons_succ,i64_w,i32_w]
        rfl
       refine take_ (i:=1) (N:=some 26) (v:=?_) (a':=?_) #[true,true,false,true,false,true,true,true,true,true,true,true,true,false,false,false,false] rfl rfl (take_ofW HT_.out HW_.out (by kernel_rfl)) (fun _ _ _ h=>h) (Or.inl ⟨by rfl,?_⟩) hHeld ?_ ?_
       rotate_left
       ·rintro w' ⟨s0,s1⟩
        go_simp
        with_reducible rfl
       rotate_left
       ·simp only [Act.put,List.setIfInBounds_toArray,List.set_cons_zero,List.set_cons_succ,i64_w,i32_w]
        rfl
       refine pure_ (i:=2) (N:=some 27) (v:=?_) (a':=?_) #[true,true,true,true,false,true,true,true,true,true,true,true,true,false,false,false,false] rfl rfl (any_of HT_.out (by kernel_rfl)) (fun _ _ _ h=>h) (Or.inl ⟨by rfl,?_⟩) ?_ ?_
       rotate_left
       ·intro w'
        go_simp
        with_reducible rfl
       rotate_left
       ·simp only [Act.put,List.setIfInBounds_toArray,List.set_cons_zero,List.set_cons_succ,i64_w,i32_w]
        rfl
       refine take_ (i:=4) (N:=some 29) (v:=?_) (a':=?_) #[true,true,true,true,true,true,true,true,true,true,true,true,true,false,false,false,false] rfl rfl (take_ofW HT_.out HW_.out (by kernel_rfl)) (fun _ _ _ h=>h) (Or.inl ⟨by rfl,?_⟩) hHeld ?_ ?_
       rotate_left
       ·rintro w' ⟨s0,s1⟩
        go_simp
        with_reducible rfl
       rotate_left
       ·simp only [Act.put,List.setIfInBounds_toArray,List.set_cons_zero,List.set_cons_succ,i64_w,i32_w]
        rfl
       refine pure_ (i:=13) (N:=some 38) (v:=?_) (a':=?_) #[true,true,true,true,true,true,true,true,true,true,true,true,true,true,false,false,false] rfl rfl (any_of HT_.out (by kernel_rfl)) (fun _ _ _ h=>h) (Or.inl ⟨by rfl,?_⟩) ?_ ?_
       rotate_left
       ·intro w'
        go_simp
        with_reducible rfl
       rotate_left
       ·simp only [Act.put,List.setIfInBounds_toArray,List.set_cons_zero,List.set_cons_succ,i64_w,i32_w]
        rfl
       refine pure_ (i:=14) (N:=some 39) (v:=?_) (a':=?_) #[true,true,true,true,true,true,true,true,true,true,true,true,true,true,true,false,false] rfl rfl (any_of HT_.out (by kernel_rfl)) (fun _ _ _ h=>h) (Or.inl ⟨by rfl,?_⟩) ?_ ?_
       rotate_left
       ·intro w'
        go_simp
        with_reducible rfl
       rotate_left
       ·simp only [Act.put,List.setIfInBounds_toArray,List.set_cons_zero,List.set_cons_succ,i64_w,i32_w]
        rfl
       refine one_ (i:=15) (N:=none) #[true,true,true,true,true,true,true,true,true,true,true,true,true,true,true,true,false] rfl rfl (one_of HT_.out (by kernel_rfl)) (by decide) (fun K hK=>?_)
       have hs27:w26.cell? ⟨A8,0,none⟩=some (.int .i64 0):=(blk_cell A2.out 0).trans rfl;have hfs27:=blk_frozen A2.out 0;have hns27_0:=A4.out;have hms27_0:=A6.out;have hs28:w26.cell? ⟨A8,1,none⟩=some (.string (⟨#[]⟩:ByteArray)):=(blk_cell A2.out 1).trans rfl;have hfs28:=blk_frozen A2.out 1;have hns28_0:=A4.out;have hms28_0:=A6.out
       refine skip_ (w1:=?_) (by rfl) rfl ?_ ?_
       rotate_left
       ·go_simp
        rfl
       refine hK.out _ _ ⟨((cell_far (p:=⟨A8,_,none⟩) A4.out _).trans (((cell_far (p:=⟨A8,_,none⟩) A4.out _).trans (hHeld.1)))),((cell_far (p:=⟨A8,_,none⟩) A4.out _).trans (((cell_far (p:=⟨A8,_,none⟩) A4.out _).trans (hHeld.2))))⟩ (fun hHeld=>?_)
       clear hK K
       refine pure_ (i:=16) (N:=some 5) (v:=?_) (a':=?_) #[true,true,true,true,true,true,true,true,true,true,true,true,true,true,true,true,true] rfl rfl (any_of HT_.out (by kernel_rfl)) (fun _ _ _ h=>h) (Or.inl ⟨by rfl,?_⟩) ?_ ?_
       rotate_left
       ·intro w'
        go_simp
        with_reducible rfl
       rotate_left
       ·simp only [Act.put,List.setIfInBounds_toArray,List.set_cons_zero,List.set_cons_succ,i64_w,i32_w]
        rfl
       refine done_ (done_of HT_.out (by kernel_rfl)) ?_
       try go_wp2
       refine bodyPost_ret (results_ct rfl _ _ A8 29 #[.int .i64 (wrap64 (A5 - 1)),.string (A0.extract ((ji15):Int).toNat ((wrap64 ((ji15) + (wrap64 ((A0.size:Int) / 2)))):Int).toNat)] (0,0) _ rfl (by (with_reducible repeat (first|refine blk_drewN ?_ _|refine blk_drew ?_|refine blk_alloc ?_ _));exact bp2 A2.out) Try.underlying29 rfl (by kernel_rfl)) rfl ?_
       exact ⟨by first|rfl|(simp [errW_none,errW_some] <;> rfl)|(simp only [← hji15];first|rfl|(simp [errW_none,errW_some] <;> rfl))|(simp [*,errW_none,errW_some] <;> rfl),tb HB⟩
      ·rw [if_neg c18] at H
       exact absurd H (by simp)
     ·rw [if_neg c17] at H
      exact absurd H (by simp)
    ·rw [if_neg c16] at H
     exact absurd H (by simp)
   ·replace c14:=Bool.eq_false_iff.mpr c14
    subst c14
    have H1:(some (0,(⟨#[]⟩:ByteArray),false))=some (r1,r2,r3):=by rw [if_neg (show ¬ (false=true) by decide)] at H;exact H
    clear H;have H:=H1;clear H1
    simp only [Option.some.injEq,Prod.mk.injEq] at H
    obtain ⟨rfl,rfl,rfl⟩:=H
    go_enter Try.func61,Try.ntmps61
    go_wp2_with (first|((with_reducible refine gate_dst (N:=2) rfl ?_);refine bx (N:=2) (cs:=#[.int .i64 A5,.string A0]) (t:=29) ?_;intro A9 hg w29 hbox hb;have A1:=Aside0.mk (hbox);have Ad:=bz0 hg HB;have A7:=bz0 hg HB;replace HB:=bs0 HB hb;clear hb hbox hg)|((with_reducible refine gate_dst (N:=4) rfl ?_);refine bx (N:=4) (cs:=#[.int .i64 0,.string (⟨#[]⟩:ByteArray)]) (t:=29) ?_;intro A8 hg w30 hbox hb;have A2:=Aside0.mk (hbox);have Ae:=bz1 hg HB A7;have Aa:=bz1 hg HB A7;replace HB:=bs1 HB hb A7;have A4:=nl hg A1;have A6:=ng hg A1;replace A1:=bb A1 hb;clear hb hbox hg;have hnb31:=A4.out;have hnc31:=A6.out;have hcz32__:=c2_ A1;have hfz32__:=f_ A1)|((with_reducible refine gate_callee (f:=105) rfl ?_);refine goesL_ (some 8) rfl rfl Try.func105 (by kernel_rfl) rfl #[.agg #[.int .i64 A5,.string A0]] rfl ml ?_;(with_reducible refine (spec_TableOk.calls k A5 A0 true _ A3.out).mono ?_);rintro e w33 ⟨rfl,hb⟩;refine ⟨_,rfl,?_⟩;replace A1:=bb A1 hb;replace A2:=bb A2 hb;replace HB:=bs2 HB hb A7 Aa;(try clear hb);(try clear hb2);(try clear hk);(try clear hi);have hcz34__:=c2_ A1;have hfz34__:=f_ A1)|(go_at_call 63;(try simp only [i64_w,i32_w]);(with_reducible refine (spec_l01In.calls a1 0 1 false _ A13.out).mono ?_);rintro e w' ⟨rfl,⟨nd,rfl⟩⟩;(try (rw [drewN_self w33];generalize hq_:World.drewN w33 _=w33;have n0_:Aside0 (w33.heap[A9]? = some (.cells #[.int .i64 A5,.string A0] 29 (0,0))):=⟨by rw [← hq_];exact (dr A1)⟩;have n1_:Aside0 (w33.heap[A8]? = some (.cells #[.int .i64 0,.string (⟨#[]⟩:ByteArray)] 29 (0,0))):=⟨by rw [← hq_];exact (dr A2)⟩;have n2_:Aside0 (Below w.heap.size w w33):=⟨by rw [← hq_];exact (tb HB)⟩;clear A1 A2 HB hq_;have A1:=n0_;have A2:=n1_;have HB:=n2_;clear n0_ n1_ n2_));(try (have hcz35__:=c2_ A1;have hfz35__:=f_ A1));have hcz36__:=c2_ A2;have hfz36__:=f_ A2))
    refine bodyPost_ret (results_ct rfl _ _ A8 29 #[.int .i64 0,.string (⟨#[]⟩:ByteArray)] (0,0) _ rfl (by (with_reducible repeat (first|refine blk_drewN ?_ _|refine blk_drew ?_|refine blk_alloc ?_ _));exact bp2 A2.out) Try.underlying29 rfl (by kernel_rfl)) rfl ?_
    exact ⟨er,tb HB⟩
 ·replace c4:=Bool.eq_false_iff.mpr c4
  subst c4
  have H1:(some (0,(⟨#[]⟩:ByteArray),false))=some (r1,r2,r3):=by rw [if_neg (show ¬ (false=true) by decide)] at H;exact H
  clear H;have H:=H1;clear H1
  simp only [Option.some.injEq,Prod.mk.injEq] at H
  obtain ⟨rfl,rfl,rfl⟩:=H
  go_enter Try.func61,Try.ntmps61
  go_wp2_with (first|((with_reducible refine gate_dst (N:=2) rfl ?_);refine bx (N:=2) (cs:=#[.int .i64 A5,.string A0]) (t:=29) ?_;intro A9 hg w37 hbox hb;have A1:=Aside0.mk (hbox);have Ad:=bz0 hg HB;have A7:=bz0 hg HB;replace HB:=bs0 HB hb;clear hb hbox hg)|((with_reducible refine gate_dst (N:=4) rfl ?_);refine bx (N:=4) (cs:=#[.int .i64 0,.string (⟨#[]⟩:ByteArray)]) (t:=29) ?_;intro A8 hg w38 hbox hb;have A2:=Aside0.mk (hbox);have Ae:=bz1 hg HB A7;have Aa:=bz1 hg HB A7;replace HB:=bs1 HB hb A7;have A4:=nl hg A1;have A6:=ng hg A1;replace A1:=bb A1 hb;clear hb hbox hg;have hnb39:=A4.out;have hnc39:=A6.out;have hcz40__:=c2_ A1;have hfz40__:=f_ A1)|((with_reducible refine gate_callee (f:=105) rfl ?_);refine goesL_ (some 8) rfl rfl Try.func105 (by kernel_rfl) rfl #[.agg #[.int .i64 A5,.string A0]] rfl ml ?_;(with_reducible refine (spec_TableOk.calls k A5 A0 false _ A3.out).mono ?_);rintro e w41 ⟨rfl,hb⟩;refine ⟨_,rfl,?_⟩;replace A1:=bb A1 hb;replace A2:=bb A2 hb;replace HB:=bs2 HB hb A7 Aa;(try clear hb);(try clear hb2);(try clear hk);(try clear hi);have hcz42__:=c2_ A2;have hfz42__:=f_ A2))
  refine bodyPost_ret (results_ct rfl _ _ A8 29 #[.int .i64 0,.string (⟨#[]⟩:ByteArray)] (0,0) _ rfl (by (with_reducible repeat (first|refine blk_drewN ?_ _|refine blk_drew ?_|refine blk_alloc ?_ _));exact bp2 A2.out) Try.underlying29 rfl (by kernel_rfl)) rfl ?_
  exact ⟨er,tb HB⟩
def spec_l09Left.l0:Nat→Int→List Bool→Int→ByteArray→Int→List Int→Int→Bool→Int→Int→Int→List (S86)→Int→ByteArray→Option (Int × ByteArray)
  | 0,_,_,_,_,_,_,_,_,_,_,_,_,_,_=>none
  | k + 1,x4,x102000,x102001,x102002,x102003,x102004,x102005,x102006,x102007,x102008,x102009,x102010,x104000,x104001=>if x4 < (x102004.length:Int) then (if 0≤x4 then ((spec_Half.f k x104000 x104001 (rd x102004 x4)).bind fun bt105=>(spec_l09Left.l0 k (wrap64 (x4 + 1)) x102000 x102001 x102002 x102003 x102004 x102005 x102006 x102007 x102008 x102009 x102010 bt105.1 bt105.2.1)) else (none)) else (some (x104000,x104001))
def spec_l09Left.f (k:Nat) (An:List Bool) (Am:Int) (Ao:ByteArray) (Aq:Int) (Aa:List Int) (Ar:Int) (As:Bool) (At:Int) (Au:Int) (Av:Int) (Ag:List (S86)):Option (Int × ByteArray):=spec_l09Left.l0 k 0 An Am Ao Aq Aa Ar As At Au Av Ag Am Ao
def spec_l09Left.T5:Bool × List (List Nat × List Nat):=(true,[([],[]),([],[]),([1],[1]),([],[]),([2,3],[2,3]),([4],[4]),([0,5],[0,5]),([6],[6]),([7],[7]),([7],[7]),([],[]),([10,8,6,0,1,2,3,4,5,6,7,8,10],[8,10]),([9,11,0,1,2,3,4,5,6,7,8,9,10,11],[9])])
def spec_l09Left.B5:List Nat:=[0,0,2,0,14,30,63,127,255,255,0,1535,4095]
theorem spec_l09Left.tab5:rtab .any (opsOf Try.f79 5)=spec_l09Left.T5:=by kernel_rfl
theorem spec_l09Left.bits5:waitsOk spec_l09Left.T5.2 spec_l09Left.B5=true:=by kernel_rfl
set_option maxHeartbeats 80000000 in
set_option maxRecDepth 100000 in
theorem spec_l09Left.calls (k:Nat) (B4:Option Addr) (B6:Nat) (An:List Bool) (Am:Int) (Ao:ByteArray) (Aq:Int) (Bc:Option Addr) (B7:Nat) (Aa:List Int) (Ar:Int) (As:Bool) (At:Int) (Au:Int) (Av:Int) (Aw:Option Addr) (Ax:Nat) (Ag:List (S86)) (r1:Int) (r2:ByteArray) (w:World) (hr0_0:Kd.C Kd.bool w B4 An.length An) (hc0_0:An.length≤B6) (hr0_4:Kd.C (Kd.int .i64) w Bc Aa.length Aa) (hc0_4:Aa.length≤B7) (hr0_10:Kd.C k86 w Aw Ag.length Ag) (hc0_10:Ag.length≤Ax) (h:spec_l09Left.f k An Am Ao Aq Aa Ar As At Au Av Ag=some (r1,r2)) :
  Calls Try.prog 79 #[.agg #[.slice B4 An.length B6,.int .i64 Am,.string Ao,.int .i64 Aq,.slice Bc Aa.length B7,.int .i64 Ar,.bool As,.int .i64 At,.int .i64 Au,.int .i64 Av,.slice Aw Ag.length Ax]] w fun e w'=>e = .returned (.agg #[.int .i64 r1,.string r2])∧Below w.heap.size w w':=by
 have hu36:=Try.underlying36;have hu29:=Try.underlying29;have HR0_0:=Aside0.mk hr0_0;have HC0_0:=Aside0.mk hc0_0;clear hr0_0 hc0_0;have Bd:=Aside0.mk hr0_4;have HC0_4:=Aside0.mk hc0_4;clear hr0_4 hc0_4;have HR0_10:=Aside0.mk hr0_10;have HC0_10:=Aside0.mk hc0_10;clear hr0_10 hc0_10;have HB:=Aside0.mk (Below.refl w.heap.size w);have H:(spec_l09Left.l0 k 0 An Am Ao Aq Aa Ar As At Au Av Ag Am Ao)=some (r1,r2):=h;clear h
 have H':=Aside0.mk H
 clear H
 go_enter Try.func79,Try.ntmps79
 go_wp2_with (first|((with_reducible refine gate_dst (N:=1) rfl ?_);refine bx (N:=1) (cs:=#[.slice B4 An.length B6,.int .i64 Am,.string Ao,.int .i64 Aq,.slice Bc Aa.length B7,.int .i64 Ar,.bool As,.int .i64 At,.int .i64 Au,.int .i64 Av,.slice Aw Ag.length Ax]) (t:=36) ?_;intro A3 hg w2 hbox hb;have A0:=Aside0.mk (hbox);have GW101:=bz0 hg HB;have Ai:=bz0 hg HB;replace HB:=bs0 HB hb;clear hb hbox hg)|((with_reducible refine gate_dst (N:=2) rfl ?_);refine bx (N:=2) (cs:=#[.int .i64 0,.string (⟨#[]⟩:ByteArray)]) (t:=29) ?_;intro B2 hg w3 hbox hb;have A8:=Aside0.mk (hbox);have GW102:=bz1 hg HB Ai;have Ap:=bz1 hg HB Ai;replace HB:=bs1 HB hb Ai;have Ay:=nl hg A0;have Az:=ng hg A0;replace A0:=bb A0 hb;clear hb hbox hg;have hnb4:=Ay.out;have hnc4:=Az.out;have hcz5__:=c11_ A0;have hfz5__:=f_ A0)|((with_reducible refine gate_dst (N:=3) rfl ?_);refine bx (N:=3) (cs:=#[.int .i64 0,.string (⟨#[]⟩:ByteArray)]) (t:=29) ?_;intro Aj hg w6 hbox hb;have A4:=Aside0.mk (hbox);have GW103:=bz2 hg HB Ai Ap;have B3:=bz2 hg HB Ai Ap;replace HB:=bs2 HB hb Ai Ap;have Ab:=nl hg A0;have B0:=ng hg A0;replace A0:=bb A0 hb;have Ac:=nl hg A8;have B1:=ng hg A8;replace A8:=bb A8 hb;clear hb hbox hg;have hnb7:=B0.out;have hnc7:=Ab.out;have hnb8:=B1.out;have hnc8:=Ac.out;have hcz9__:=c2_ A4;have hfz9__:=f_ A4))
 go_loopg [4] k (fun kq v4 w'=>∃ (Ah:Int) (A6:Int) (A5:ByteArray),v4 = .int .i64 Ah∧Aside0 (spec_l09Left.l0 kq Ah An Am Ao Aq Aa Ar As At Au Av Ag A6 A5=some (r1,r2))∧Aside0 (kq≤k)∧Aside0 (w'.heap[A3]? = some (.cells #[(.slice B4 An.length B6),.int .i64 Am,.string Ao,.int .i64 Aq,(.slice Bc Aa.length B7),.int .i64 Ar,.bool As,.int .i64 At,.int .i64 Au,.int .i64 Av,(.slice Aw Ag.length Ax)] 36 (0,0)))∧Aside0 (w'.heap[B2]? = some (.cells #[.int .i64 0,.string (⟨#[]⟩:ByteArray)] 29 (0,0)))∧Aside0 (w'.heap[Aj]? = some (.cells #[.int .i64 A6,.string A5] 29 (0,0)))∧Aside0 (Below w.heap.size w w'))
 case atStart=>exact ⟨(0),(Am),(Ao),(by first|rfl|(simp;done)|(simp [*];done)),H',⟨Nat.le_refl _⟩,⟨by (with_reducible repeat (first|refine blk_drewN ?_ _|refine blk_drew ?_|refine blk_alloc ?_ _));refine blk_far ?_ Ab.out _;(with_reducible repeat (first|refine blk_drewN ?_ _|refine blk_drew ?_|refine blk_alloc ?_ _));refine blk_far ?_ Ab.out _;(with_reducible repeat (first|refine blk_drewN ?_ _|refine blk_drew ?_|refine blk_alloc ?_ _));exact A0.out⟩,⟨by (with_reducible repeat (first|refine blk_drewN ?_ _|refine blk_drew ?_|refine blk_alloc ?_ _));refine blk_far ?_ Ac.out _;(with_reducible repeat (first|refine blk_drewN ?_ _|refine blk_drew ?_|refine blk_alloc ?_ _));refine blk_far ?_ Ac.out _;(with_reducible repeat (first|refine blk_drewN ?_ _|refine blk_drew ?_|refine blk_alloc ?_ _));exact A8.out⟩,⟨by (with_reducible repeat (first|refine blk_drewN ?_ _|refine blk_drew ?_|refine blk_alloc ?_ _));refine blk_put (cs:=#[.int .i64 Am,.string (⟨#[]⟩:ByteArray)]) ?_ 1 _ rfl;(with_reducible repeat (first|refine blk_drewN ?_ _|refine blk_drew ?_|refine blk_alloc ?_ _));refine blk_put (cs:=#[.int .i64 0,.string (⟨#[]⟩:ByteArray)]) ?_ 0 _ rfl;(with_reducible repeat (first|refine blk_drewN ?_ _|refine blk_drew ?_|refine blk_alloc ?_ _));exact A4.out⟩,⟨by exact tb HB⟩⟩
 case round =>
  clear H'
  (try clear p2);(try clear c4);(try clear c7);(try clear c8);(try clear hcz5__);(try clear hcz9__);(try clear hfz5__);(try clear hfz9__)
  obtain ⟨Ah,A6,A5,rfl,HA,HK1,A0,A8,A4,HB⟩:=hrel
  cases gk with
    | zero=>exact absurd HA.out (by simp [spec_l09Left.l0])
    | succ k1 =>
   have H:=HA.out;clear HA
   simp only [spec_l09Left.l0] at H
   by_cases c10:Ah < (Aa.length:Int)
   ·rw [if_pos c10] at H
    have c10b0:decide (Ah < (Aa.length:Int))=true:=decide_eq_true c10;clear c10
    by_cases c11:0≤Ah
    ·rw [if_pos c11] at H
     have c11b0:decide (0≤Ah)=true:=decide_eq_true c11;clear c11
     replace H:=Option.bind_eq_some_iff.mp H
     obtain ⟨⟨B8,Ba,Bb⟩,A120,H⟩:=H
     replace H:(spec_l09Left.l0 k1 (wrap64 (Ah + 1)) An Am Ao Aq Aa Ar As At Au Av Ag B8 Ba)=some (r1,r2):=H
     have A12:=Aside0.mk A120;clear A120
     have H':=Aside0.mk H
     clear H;have hnb13:=Ay.out;have hnc13:=Az.out;have hnb14:=Ab.out;have hnc14:=B0.out;have hcz15__:=c11_ A0;have hfz15__:=f_ A0
     try go_wp2
     replace A0:=Aside0.mk (blk_drew A0.out);replace A8:=Aside0.mk (blk_drew A8.out);replace A4:=Aside0.mk (blk_drew A4.out);replace HB:=Aside0.mk (below_drew1 HB.out)
     have p104:0≤(Ah:Int):=od
     have q104:Ah < (Aa.length:Int):=od
     obtain ⟨ad104,e104,hx104_0⟩:=Kd.at_int Bd.out Ah p104 q104
     have hw104_0:=hx104_0
     cases e104
     replace hx104_0:=(HB.out.cell (World.block_lt_of_cell? w _ hx104_0)).trans hx104_0
     replace p104:=eq_true p104
     replace q104:=eq_true q104
     refine start_ (n:=13) (S:=fun w'=>w'.cell? ⟨Aj,0,none⟩=some (.int .i64 A6)∧w'.cell? ⟨Aj,1,none⟩=some (.string A5)∧w'.cell? ⟨A3,0,none⟩=some (.slice B4 An.length B6)∧w'.cell? ⟨A3,1,none⟩=some (.int .i64 Am)∧w'.cell? ⟨A3,2,none⟩=some (.string Ao)∧w'.cell? ⟨A3,3,none⟩=some (.int .i64 Aq)∧w'.cell? ⟨A3,4,none⟩=some (.slice (some ad104) Aa.length B7)∧w'.cell? ⟨A3,5,none⟩=some (.int .i64 Ar)∧w'.cell? ⟨A3,6,none⟩=some (.bool As)∧w'.cell? ⟨A3,7,none⟩=some (.int .i64 At)∧w'.cell? ⟨A3,8,none⟩=some (.int .i64 Au)∧w'.cell? ⟨A3,9,none⟩=some (.int .i64 Av)∧w'.cell? ⟨A3,10,none⟩=some (.slice Aw Ag.length Ax)∧w'.cell? (ad104.add (Ah).toNat)=some (.int .i64 (rd Aa Ah))) (ds:=[]) #[false,false,false,false,false,false,false,false,false,false,false,false,false] (by kernel_rfl) rfl rfl ⟨(blk_cell A4.out 0).trans rfl,(blk_cell A4.out 1).trans rfl,(blk_cell A0.out 0).trans rfl,(blk_cell A0.out 1).trans rfl,(blk_cell A0.out 2).trans rfl,(blk_cell A0.out 3).trans rfl,(blk_cell A0.out 4).trans rfl,(blk_cell A0.out 5).trans rfl,(blk_cell A0.out 6).trans rfl,(blk_cell A0.out 7).trans rfl,(blk_cell A0.out 8).trans rfl,(blk_cell A0.out 9).trans rfl,(blk_cell A0.out 10).trans rfl,((HB.out.cell (World.block_lt_of_cell? w _ hw104_0)).trans hw104_0)⟩ (fun hHeld=>?_);refine with_tabW spec_l09Left.tab5 spec_l09Left.bits5 (fun HT_ HW_=>?_)
     generalize wr.drew=w16 at A0 A8 A4 HB hx104_0 hHeld ⊢
     refine pure_ (i:=1) (N:=some 18) (v:=?_) (a':=?_) #[false,true,false,false,false,false,false,false,false,false,false,false,false] rfl rfl (any_of HT_.out (by kernel_rfl)) (fun _ _ _ h=>h) (Or.inl ⟨by rfl,?_⟩) ?_ ?_
     rotate_left
     ·intro w'
      go_simp
      with_reducible rfl
     rotate_left
     ·simp only [Act.put,List.setIfInBounds_toArray,List.set_cons_zero,List.set_cons_succ,i64_w,i32_w]
      rfl
     refine pure_ (i:=3) (N:=some 20) (v:=?_) (a':=?_) #[false,true,false,true,false,false,false,false,false,false,false,false,false] rfl rfl (any_of HT_.out (by kernel_rfl)) (fun _ _ _ h=>h) (Or.inl ⟨by rfl,?_⟩) ?_ ?_
     rotate_left
     ·intro w'
      go_simp
      with_reducible rfl
     rotate_left
     ·simp only [Act.put,List.setIfInBounds_toArray,List.set_cons_zero,List.set_cons_succ,i64_w,i32_w]
      rfl
     refine take_ (i:=0) (N:=some 17) (v:=?_) (a':=?_) #[true,true,false,true,false,false,false,false,false,false,false,false,false] rfl rfl (take_ofW HT_.out HW_.out (by kernel_rfl)) (fun _ _ _ h=>h) (Or.inl ⟨by rfl,?_⟩) hHeld ?_ ?_
     rotate_left
     ·rintro w' ⟨s0,s1,s2,s3,s4,s5,s6,s7,s8,s9,s10,s11,s12,s13⟩
      go_simp
      with_reducible rfl
     rotate_left
     ·simp only [Act.put,List.setIfInBounds_toArray,List.set_cons_zero,List.set_cons_succ,i64_w,i32_w]
      rfl
     refine take_ (i:=2) (N:=some 19) (v:=?_) (a':=?_) #[true,true,true,true,false,false,false,false,false,false,false,false,false] rfl rfl (take_ofW HT_.out HW_.out (by kernel_rfl)) (fun _ _ _ h=>h) (Or.inl ⟨by rfl,?_⟩) hHeld ?_ ?_
     rotate_left
     ·rintro w' ⟨s0,s1,s2,s3,s4,s5,s6,s7,s8,s9,s10,s11,s12,s13⟩
      go_simp
      with_reducible rfl
     rotate_left
     ·simp only [Act.put,List.setIfInBounds_toArray,List.set_cons_zero,List.set_cons_succ,i64_w,i32_w]
      rfl
     refine pure_ (i:=4) (N:=some 21) (v:=?_) (a':=?_) #[true,true,true,true,true,false,false,false,false,false,false,false,false] rfl rfl (any_of HT_.out (by kernel_rfl)) (fun _ _ _ h=>h) (Or.inl ⟨by rfl,?_⟩) ?_ ?_
     rotate_left
     ·intro w'
      go_simp
      with_reducible rfl
     rotate_left
     ·simp only [Act.put,List.setIfInBounds_toArray,List.set_cons_zero,List.set_cons_succ,i64_w,i32_w]
      rfl
     refine take_ (i:=5) (N:=some 22) (v:=?_) (a':=?_) #[true,true,true,true,true,true,false,false,false,false,false,false,false] rfl rfl (take_ofW HT_.out HW_.out (by kernel_rfl)) (fun _ _ _ h=>h) (Or.inl ⟨by rfl,?_⟩) hHeld ?_ ?_
     rotate_left
     ·rintro w' ⟨s0,s1,s2,s3,s4,s5,s6,s7,s8,s9,s10,s11,s12,s13⟩
      go_simp
      with_reducible rfl
     rotate_left
     ·simp only [Act.put,List.setIfInBounds_toArray,List.set_cons_zero,List.set_cons_succ,i64_w,i32_w]
      rfl
     refine join_ (σ:=Nat) 2 #[true,true,true,true,true,true,true,true,true,true,true,false,false] (fun s_=>[(23,.tuple #[.agg #[.int .i64 B8,.string Ba],.bool Bb]),(5,.pointer (some ⟨s_,0,none⟩)),(16,.tuple #[.agg #[.int .i64 B8,.string Ba],.bool Bb]),(24,.agg #[.int .i64 B8,.string Ba]),(25,.bool Bb)]) (fun s_ w'=>(w'.cell? ⟨Aj,0,none⟩=some (.int .i64 A6)∧w'.cell? ⟨Aj,1,none⟩=some (.string A5)∧w'.cell? ⟨A3,0,none⟩=some (.slice B4 An.length B6)∧w'.cell? ⟨A3,1,none⟩=some (.int .i64 Am)∧w'.cell? ⟨A3,2,none⟩=some (.string Ao)∧w'.cell? ⟨A3,3,none⟩=some (.int .i64 Aq)∧w'.cell? ⟨A3,4,none⟩=some (.slice (some ad104) Aa.length B7)∧w'.cell? ⟨A3,5,none⟩=some (.int .i64 Ar)∧w'.cell? ⟨A3,6,none⟩=some (.bool As)∧w'.cell? ⟨A3,7,none⟩=some (.int .i64 At)∧w'.cell? ⟨A3,8,none⟩=some (.int .i64 Au)∧w'.cell? ⟨A3,9,none⟩=some (.int .i64 Av)∧w'.cell? ⟨A3,10,none⟩=some (.slice Aw Ag.length Ax)∧w'.cell? (ad104.add (Ah).toNat)=some (.int .i64 (rd Aa Ah)))∧(w'.heap[A3]? = some (.cells #[.slice B4 An.length B6,.int .i64 Am,.string Ao,.int .i64 Aq,.slice (some ad104) Aa.length B7,.int .i64 Ar,.bool As,.int .i64 At,.int .i64 Au,.int .i64 Av,.slice Aw Ag.length Ax] 36 (0,0)))∧(w'.heap[B2]? = some (.cells #[.int .i64 0,.string (⟨#[]⟩:ByteArray)] 29 (0,0)))∧(w'.heap[Aj]? = some (.cells #[.int .i64 A6,.string A5] 29 (0,0)))∧(w'.heap[s_]? = some (.cells #[.int .i64 0,.string (⟨#[]⟩:ByteArray)] 29 (0,0)))∧(w.heap.size≤s_)∧(w.heap.size≤s_)∧(A3≠s_)∧(s_≠A3)∧(B2≠s_)∧(s_≠B2)∧(Aj≠s_)∧(s_≠Aj)∧(Below w.heap.size w w')) ?_ ?_
     rotate_left
     ·intro hCont
      refine two_ (i:=6) (j:=10) (Ni:=some 23) (Nj:=some 5) #[true,true,true,true,true,true,true,false,false,false,false,false,false] #[true,true,true,true,true,true,false,false,false,false,true,false,false] rfl rfl rfl rfl (two_of HT_.out (by kernel_rfl)) (by decide) (by decide) (fun K hK=>?_) (fun K hK=>?_)
      ·skip
       refine goes_ Try.func61 (by kernel_rfl) rfl #[.agg #[.int .i64 A6,.string A5],.int .i64 (rd Aa Ah)] (by rfl) rfl rfl ml ?_
       with_reducible refine (spec_Half.calls k1 A6 A5 (rd Aa Ah) B8 Ba Bb _ A12.out).mono ?_
       rintro e w17 ⟨rfl,hb⟩
       refine ⟨_,rfl,?_⟩
       replace A0:=bb A0 hb;replace A8:=bb A8 hb;replace A4:=bb A4 hb;replace HB:=bs3 HB hb Ai Ap B3
       (try clear hb)
       (try clear hb2)
       (try clear hk)
       (try clear hi)
       refine hK.out _ _ ⟨(blk_cell A4.out 0).trans rfl,(blk_cell A4.out 1).trans rfl,(blk_cell A0.out 0).trans rfl,(blk_cell A0.out 1).trans rfl,(blk_cell A0.out 2).trans rfl,(blk_cell A0.out 3).trans rfl,(blk_cell A0.out 4).trans rfl,(blk_cell A0.out 5).trans rfl,(blk_cell A0.out 6).trans rfl,(blk_cell A0.out 7).trans rfl,(blk_cell A0.out 8).trans rfl,(blk_cell A0.out 9).trans rfl,(blk_cell A0.out 10).trans rfl,((HB.out.cell (World.block_lt_of_cell? w _ hw104_0)).trans hw104_0)⟩ (fun hHeld=>?_)
       clear hK K
       refine norm_ (a':=?_) ?_ ?_
       rotate_left
       ·show Act.put _ (some 23) _=_
        simp only [Act.put,List.setIfInBounds_toArray,List.set_cons_zero,List.set_cons_succ,i64_w,i32_w]
        rfl
       refine pure_ (i:=7) (N:=some 16) (v:=?_) (a':=?_) #[true,true,true,true,true,true,true,true,false,false,false,false,false] rfl rfl (any_of HT_.out (by kernel_rfl)) (fun _ _ _ h=>h) (Or.inl ⟨by rfl,?_⟩) ?_ ?_
       rotate_left
       ·intro w'
        go_simp
        with_reducible rfl
       rotate_left
       ·simp only [Act.put,List.setIfInBounds_toArray,List.set_cons_zero,List.set_cons_succ,i64_w,i32_w]
        rfl
       refine pure_ (i:=8) (N:=some 24) (v:=?_) (a':=?_) #[true,true,true,true,true,true,true,true,true,false,false,false,false] rfl rfl (any_of HT_.out (by kernel_rfl)) (fun _ _ _ h=>h) (Or.inl ⟨by rfl,?_⟩) ?_ ?_
       rotate_left
       ·intro w'
        go_simp
        with_reducible rfl
       rotate_left
       ·simp only [Act.put,List.setIfInBounds_toArray,List.set_cons_zero,List.set_cons_succ,i64_w,i32_w]
        rfl
       refine pure_ (i:=9) (N:=some 25) (v:=?_) (a':=?_) #[true,true,true,true,true,true,true,true,true,true,false,false,false] rfl rfl (any_of HT_.out (by kernel_rfl)) (fun _ _ _ h=>h) (Or.inl ⟨by rfl,?_⟩) ?_ ?_
       rotate_left
       ·intro w'
        go_simp
        with_reducible rfl
       rotate_left
       ·simp only [Act.put,List.setIfInBounds_toArray,List.set_cons_zero,List.set_cons_succ,i64_w,i32_w]
        rfl
       refine one_ (i:=10) (N:=some 5) #[true,true,true,true,true,true,true,true,true,true,true,false,false] rfl rfl (one_of HT_.out (by kernel_rfl)) (by decide) (fun K hK=>?_)
       refine box_step ?hg (N:=5) ?hd (cs:=#[.int .i64 0,.string (⟨#[]⟩:ByteArray)]) (t:=29) ?hr ?_;(case hd=>rfl);(case hg=>rfl);(case hr=>first|(go_simp;done)|(go_simp;rfl))
       intro A2 hg w18 hbox hb
       have Ak:=Aside0.mk (hbox);have Al:=bz3 hg HB Ai Ap B3;have B9:=bz3 hg HB Ai Ap B3;replace HB:=bs3 HB hb Ai Ap B3;have A1:=nl hg A0;have Ad:=ng hg A0;replace A0:=bb A0 hb;have A9:=nl hg A8;have Ae:=ng hg A8;replace A8:=bb A8 hb;have A7:=nl hg A4;have Af:=ng hg A4;replace A4:=bb A4 hb;clear hb hbox hg
       refine hK.out _ _ ⟨(blk_cell A4.out 0).trans rfl,(blk_cell A4.out 1).trans rfl,(blk_cell A0.out 0).trans rfl,(blk_cell A0.out 1).trans rfl,(blk_cell A0.out 2).trans rfl,(blk_cell A0.out 3).trans rfl,(blk_cell A0.out 4).trans rfl,(blk_cell A0.out 5).trans rfl,(blk_cell A0.out 6).trans rfl,(blk_cell A0.out 7).trans rfl,(blk_cell A0.out 8).trans rfl,(blk_cell A0.out 9).trans rfl,(blk_cell A0.out 10).trans rfl,((HB.out.cell (World.block_lt_of_cell? w _ hw104_0)).trans hw104_0)⟩ (fun hHeld=>?_)
       clear hK K
       refine norm_ (a':=?_) ?_ ?_
       rotate_left
       ·show Act.put _ (some 5) _=_
        simp only [Act.put,List.setIfInBounds_toArray,List.set_cons_zero,List.set_cons_succ,i64_w,i32_w]
        rfl
       exact norm_ (by simp only [putAll,Act.put,List.setIfInBounds_toArray,List.set_cons_zero,List.set_cons_succ]) (hCont (A2) _ ⟨hHeld,(dr A0),(dr A8),(dr A4),(dr Ak),Al.out,B9.out,A1.out,Ad.out,A9.out,Ae.out,A7.out,Af.out,(tb HB)⟩)
      ·skip
       refine box_step ?hg (N:=5) ?hd (cs:=#[.int .i64 0,.string (⟨#[]⟩:ByteArray)]) (t:=29) ?hr ?_;(case hd=>rfl);(case hg=>rfl);(case hr=>first|(go_simp;done)|(go_simp;rfl))
       intro A2 hg w17 hbox hb
       have Ak:=Aside0.mk (hbox);have Al:=bz3 hg HB Ai Ap B3;have B9:=bz3 hg HB Ai Ap B3;replace HB:=bs3 HB hb Ai Ap B3;have A1:=nl hg A0;have Ad:=ng hg A0;replace A0:=bb A0 hb;have A9:=nl hg A8;have Ae:=ng hg A8;replace A8:=bb A8 hb;have A7:=nl hg A4;have Af:=ng hg A4;replace A4:=bb A4 hb;clear hb hbox hg
       refine hK.out _ _ ⟨(blk_cell A4.out 0).trans rfl,(blk_cell A4.out 1).trans rfl,(blk_cell A0.out 0).trans rfl,(blk_cell A0.out 1).trans rfl,(blk_cell A0.out 2).trans rfl,(blk_cell A0.out 3).trans rfl,(blk_cell A0.out 4).trans rfl,(blk_cell A0.out 5).trans rfl,(blk_cell A0.out 6).trans rfl,(blk_cell A0.out 7).trans rfl,(blk_cell A0.out 8).trans rfl,(blk_cell A0.out 9).trans rfl,(blk_cell A0.out 10).trans rfl,((HB.out.cell (World.block_lt_of_cell? w _ hw104_0)).trans hw104_0)⟩ (fun hHeld=>?_)
       clear hK K
       refine norm_ (a':=?_) ?_ ?_
       rotate_left
       ·show Act.put _ (some 5) _=_
        simp only [Act.put,List.setIfInBounds_toArray,List.set_cons_zero,List.set_cons_succ,i64_w,i32_w]
        rfl
       refine one_ (i:=6) (N:=some 23) #[true,true,true,true,true,true,true,false,false,false,true,false,false] rfl rfl (one_of HT_.out (by kernel_rfl)) (by decide) (fun K hK=>?_)
       refine goes_ Try.func61 (by kernel_rfl) rfl #[.agg #[.int .i64 A6,.string A5],.int .i64 (rd Aa Ah)] (by rfl) rfl rfl ml ?_
       with_reducible refine (spec_Half.calls k1 A6 A5 (rd Aa Ah) B8 Ba Bb _ A12.out).mono ?_
       rintro e w18 ⟨rfl,hb⟩
       refine ⟨_,rfl,?_⟩
       replace A0:=bb A0 hb;replace A8:=bb A8 hb;replace A4:=bb A4 hb;replace Ak:=bb Ak hb;replace HB:=bs4 HB hb Ai Ap B3 B9
       (try clear hb)
       (try clear hb2)
       (try clear hk)
       (try clear hi)
       refine hK.out _ _ ⟨(blk_cell A4.out 0).trans rfl,(blk_cell A4.out 1).trans rfl,(blk_cell A0.out 0).trans rfl,(blk_cell A0.out 1).trans rfl,(blk_cell A0.out 2).trans rfl,(blk_cell A0.out 3).trans rfl,(blk_cell A0.out 4).trans rfl,(blk_cell A0.out 5).trans rfl,(blk_cell A0.out 6).trans rfl,(blk_cell A0.out 7).trans rfl,(blk_cell A0.out 8).trans rfl,(blk_cell A0.out 9).trans rfl,(blk_cell A0.out 10).trans rfl,((HB.out.cell (World.block_lt_of_cell? w _ hw104_0)).trans hw104_0)⟩ (fun hHeld=>?_)
       clear hK K
       refine norm_ (a':=?_) ?_ ?_
       rotate_left
       ·show Act.put _ (some 23) _=_
        simp only [Act.put,List.setIfInBounds_toArray,List.set_cons_zero,List.set_cons_succ,i64_w,i32_w]
        rfl
       refine pure_ (i:=7) (N:=some 16) (v:=?_) (a':=?_) #[true,true,true,true,true,true,true,true,false,false,true,false,false] rfl rfl (any_of HT_.out (by kernel_rfl)) (fun _ _ _ h=>h) (Or.inl ⟨by rfl,?_⟩) ?_ ?_
       rotate_left
       ·intro w'
        go_simp
        with_reducible rfl
       rotate_left
       ·simp only [Act.put,List.setIfInBounds_toArray,List.set_cons_zero,List.set_cons_succ,i64_w,i32_w]
        rfl
       refine pure_ (i:=8) (N:=some 24) (v:=?_) (a':=?_) #[true,true,true,true,true,true,true,true,true,false,true,false,false] rfl rfl (any_of HT_.out (by kernel_rfl)) (fun _ _ _ h=>h) (Or.inl ⟨by rfl,?_⟩) ?_ ?_
       rotate_left
       ·intro w'
        go_simp
        with_reducible rfl
       rotate_left
       ·simp only [Act.put,List.setIfInBounds_toArray,List.set_cons_zero,List.set_cons_succ,i64_w,i32_w]
        rfl
       refine pure_ (i:=9) (N:=some 25) (v:=?_) (a':=?_) #[true,true,true,true,true,true,true,true,true,true,true,false,false] rfl rfl (any_of HT_.out (by kernel_rfl)) (fun _ _ _ h=>h) (Or.inl ⟨by rfl,?_⟩) ?_ ?_
       rotate_left
       ·intro w'
        go_simp
        with_reducible rfl
       rotate_left
       ·simp only [Act.put,List.setIfInBounds_toArray,List.set_cons_zero,List.set_cons_succ,i64_w,i32_w]
        rfl
       exact norm_ (by simp only [putAll,Act.put,List.setIfInBounds_toArray,List.set_cons_zero,List.set_cons_succ]) (hCont (A2) _ ⟨hHeld,(dr A0),(dr A8),(dr A4),(dr Ak),Al.out,B9.out,A1.out,Ad.out,A9.out,Ae.out,A7.out,Af.out,(tb HB)⟩)
     rintro A2 w19 ⟨hS_,h0_,h1_,h2_,h3_,h4_,h5_,h6_,h7_,h8_,h9_,h10_,h11_,h12_⟩
     have n0_:Aside0 (w19.heap[A3]? = some (.cells #[.slice B4 An.length B6,.int .i64 Am,.string Ao,.int .i64 Aq,.slice (some ad104) Aa.length B7,.int .i64 Ar,.bool As,.int .i64 At,.int .i64 Au,.int .i64 Av,.slice Aw Ag.length Ax] 36 (0,0))):=⟨h0_⟩;have n1_:Aside0 (w19.heap[B2]? = some (.cells #[.int .i64 0,.string (⟨#[]⟩:ByteArray)] 29 (0,0))):=⟨h1_⟩;have n2_:Aside0 (w19.heap[Aj]? = some (.cells #[.int .i64 A6,.string A5] 29 (0,0))):=⟨h2_⟩;have n3_:Aside0 (w19.heap[A2]? = some (.cells #[.int .i64 0,.string (⟨#[]⟩:ByteArray)] 29 (0,0))):=⟨h3_⟩;have n4_:Aside0 (w.heap.size≤A2):=⟨h4_⟩;have n5_:Aside0 (w.heap.size≤A2):=⟨h5_⟩;have n6_:Aside0 (A3≠A2):=⟨h6_⟩;have n7_:Aside0 (A2≠A3):=⟨h7_⟩;have n8_:Aside0 (B2≠A2):=⟨h8_⟩;have n9_:Aside0 (A2≠B2):=⟨h9_⟩;have n10_:Aside0 (Aj≠A2):=⟨h10_⟩;have n11_:Aside0 (A2≠Aj):=⟨h11_⟩;have n12_:Aside0 (Below w.heap.size w w19):=⟨h12_⟩;clear A0;clear A8;clear A4;clear HB;clear h0_ h1_ h2_ h3_ h4_ h5_ h6_ h7_ h8_ h9_ h10_ h11_ h12_;have A0:=n0_;have A8:=n1_;have A4:=n2_;have Ak:=n3_;have Al:=n4_;have B9:=n5_;have A1:=n6_;have Ad:=n7_;have A9:=n8_;have Ae:=n9_;have A7:=n10_;have Af:=n11_;have HB:=n12_;clear n0_ n1_ n2_ n3_ n4_ n5_ n6_ n7_ n8_ n9_ n10_ n11_ n12_;have hHeld:w19.cell? ⟨Aj,0,none⟩=some (.int .i64 A6)∧w19.cell? ⟨Aj,1,none⟩=some (.string A5)∧w19.cell? ⟨A3,0,none⟩=some (.slice B4 An.length B6)∧w19.cell? ⟨A3,1,none⟩=some (.int .i64 Am)∧w19.cell? ⟨A3,2,none⟩=some (.string Ao)∧w19.cell? ⟨A3,3,none⟩=some (.int .i64 Aq)∧w19.cell? ⟨A3,4,none⟩=some (.slice (some ad104) Aa.length B7)∧w19.cell? ⟨A3,5,none⟩=some (.int .i64 Ar)∧w19.cell? ⟨A3,6,none⟩=some (.bool As)∧w19.cell? ⟨A3,7,none⟩=some (.int .i64 At)∧w19.cell? ⟨A3,8,none⟩=some (.int .i64 Au)∧w19.cell? ⟨A3,9,none⟩=some (.int .i64 Av)∧w19.cell? ⟨A3,10,none⟩=some (.slice Aw Ag.length Ax)∧w19.cell? (ad104.add (Ah).toNat)=some (.int .i64 (rd Aa Ah)):=hS_
     refine norm_ (a':=?_) ?_ ?_
     rotate_left
     ·simp only [putAll,Act.put,List.setIfInBounds_toArray,List.set_cons_zero,List.set_cons_succ]
      rfl
     refine one_ (i:=11) (N:=none) #[true,true,true,true,true,true,true,true,true,true,true,true,false] rfl rfl (one_of HT_.out (by kernel_rfl)) (by decide) (fun K hK=>?_)
     have hs20:w19.cell? ⟨A2,0,none⟩=some (.int .i64 0):=(blk_cell Ak.out 0).trans rfl;have hfs20:=blk_frozen Ak.out 0;have hns20_0:=A1.out;have hns20_1:=A9.out;have hns20_2:=A7.out;have hms20_0:=Ad.out;have hms20_1:=Ae.out;have hms20_2:=Af.out;have hs21:w19.cell? ⟨A2,1,none⟩=some (.string (⟨#[]⟩:ByteArray)):=(blk_cell Ak.out 1).trans rfl;have hfs21:=blk_frozen Ak.out 1;have hns21_0:=A1.out;have hns21_1:=A9.out;have hns21_2:=A7.out;have hms21_0:=Ad.out;have hms21_1:=Ae.out;have hms21_2:=Af.out
     refine skip_ (w1:=?_) (by rfl) rfl ?_ ?_
     rotate_left
     ·go_simp
      rfl
     refine hK.out _ _ ⟨((cell_far (p:=⟨A2,_,none⟩) A7.out _).trans (((cell_far (p:=⟨A2,_,none⟩) A7.out _).trans (hHeld.1)))),((cell_far (p:=⟨A2,_,none⟩) A7.out _).trans (((cell_far (p:=⟨A2,_,none⟩) A7.out _).trans (hHeld.2.1)))),((cell_far (p:=⟨A2,_,none⟩) A1.out _).trans (((cell_far (p:=⟨A2,_,none⟩) A1.out _).trans (hHeld.2.2.1)))),((cell_far (p:=⟨A2,_,none⟩) A1.out _).trans (((cell_far (p:=⟨A2,_,none⟩) A1.out _).trans (hHeld.2.2.2.1)))),((cell_far (p:=⟨A2,_,none⟩) A1.out _).trans (((cell_far (p:=⟨A2,_,none⟩) A1.out _).trans (hHeld.2.2.2.2.1)))),((cell_far (p:=⟨A2,_,none⟩) A1.out _).trans (((cell_far (p:=⟨A2,_,none⟩) A1.out _).trans (hHeld.2.2.2.2.2.1)))),((cell_far (p:=⟨A2,_,none⟩) A1.out _).trans (((cell_far (p:=⟨A2,_,none⟩) A1.out _).trans (hHeld.2.2.2.2.2.2.1)))),((cell_far (p:=⟨A2,_,none⟩) A1.out _).trans (((cell_far (p:=⟨A2,_,none⟩) A1.out _).trans (hHeld.2.2.2.2.2.2.2.1)))),((cell_far (p:=⟨A2,_,none⟩) A1.out _).trans (((cell_far (p:=⟨A2,_,none⟩) A1.out _).trans (hHeld.2.2.2.2.2.2.2.2.1)))),((cell_far (p:=⟨A2,_,none⟩) A1.out _).trans (((cell_far (p:=⟨A2,_,none⟩) A1.out _).trans (hHeld.2.2.2.2.2.2.2.2.2.1)))),((cell_far (p:=⟨A2,_,none⟩) A1.out _).trans (((cell_far (p:=⟨A2,_,none⟩) A1.out _).trans (hHeld.2.2.2.2.2.2.2.2.2.2.1)))),((cell_far (p:=⟨A2,_,none⟩) A1.out _).trans (((cell_far (p:=⟨A2,_,none⟩) A1.out _).trans (hHeld.2.2.2.2.2.2.2.2.2.2.2.1)))),((cell_far (p:=⟨A2,_,none⟩) A1.out _).trans (((cell_far (p:=⟨A2,_,none⟩) A1.out _).trans (hHeld.2.2.2.2.2.2.2.2.2.2.2.2.1)))),((cell_far (p:=⟨A2,_,none⟩) (by first|exact Nat.ne_of_lt (Nat.lt_of_lt_of_le (by have:=World.block_lt_of_cell? _ _ hw104_0;first|rwa [add_block] at this|exact this) Al.out)|(rw [add_block];exact Nat.ne_of_lt (Nat.lt_of_lt_of_le (by have:=World.block_lt_of_cell? _ _ hw104_0;first|rwa [add_block] at this|exact this) Al.out))|(show (Addr.add _ _).block≠_;rw [add_block];exact Nat.ne_of_lt (Nat.lt_of_lt_of_le (by have:=World.block_lt_of_cell? _ _ hw104_0;first|rwa [add_block] at this|exact this) Al.out))|(dsimp only;exact Nat.ne_of_lt (Nat.lt_of_lt_of_le (by have:=World.block_lt_of_cell? _ _ hw104_0;first|rwa [add_block] at this|exact this) Al.out))) _).trans (((cell_far (p:=⟨A2,_,none⟩) (by first|exact Nat.ne_of_lt (Nat.lt_of_lt_of_le (by have:=World.block_lt_of_cell? _ _ hw104_0;first|rwa [add_block] at this|exact this) Al.out)|(rw [add_block];exact Nat.ne_of_lt (Nat.lt_of_lt_of_le (by have:=World.block_lt_of_cell? _ _ hw104_0;first|rwa [add_block] at this|exact this) Al.out))|(show (Addr.add _ _).block≠_;rw [add_block];exact Nat.ne_of_lt (Nat.lt_of_lt_of_le (by have:=World.block_lt_of_cell? _ _ hw104_0;first|rwa [add_block] at this|exact this) Al.out))|(dsimp only;exact Nat.ne_of_lt (Nat.lt_of_lt_of_le (by have:=World.block_lt_of_cell? _ _ hw104_0;first|rwa [add_block] at this|exact this) Al.out))) _).trans (hHeld.2.2.2.2.2.2.2.2.2.2.2.2.2))))⟩ (fun hHeld=>?_)
     clear hK K
     refine pure_ (i:=12) (N:=some 6) (v:=?_) (a':=?_) #[true,true,true,true,true,true,true,true,true,true,true,true,true] rfl rfl (any_of HT_.out (by kernel_rfl)) (fun _ _ _ h=>h) (Or.inl ⟨by rfl,?_⟩) ?_ ?_
     rotate_left
     ·intro w'
      go_simp
      with_reducible rfl
     rotate_left
     ·simp only [Act.put,List.setIfInBounds_toArray,List.set_cons_zero,List.set_cons_succ,i64_w,i32_w]
      rfl
     refine done_ (done_of HT_.out (by kernel_rfl)) ?_
     have hnb22:=Ad.out;have hnc22:=A1.out;have hnb23:=Ae.out;have hnc23:=A9.out;have hnb24:=Af.out;have hnc24:=A7.out;have hcz25__:=c2_ Ak;have hfz25__:=f_ Ak;have hnb26:=B1.out;have hnc26:=Ac.out;have hcz27__:=c2_ A4;have hfz27__:=f_ A4
     try go_wp2
     go_roundg k1
     case measure=>have:=HK1.out;omega
     case rel=>exact ⟨(wrap64 (Ah + 1)),(B8),(Ba),(by first|rfl|(simp;done)|(simp [*];done)),H',⟨by have:=HK1.out;omega⟩,⟨by (with_reducible repeat (first|refine blk_drewN ?_ _|refine blk_drew ?_|refine blk_alloc ?_ _));refine blk_far ?_ Ab.out _;(with_reducible repeat (first|refine blk_drewN ?_ _|refine blk_drew ?_|refine blk_alloc ?_ _));refine blk_far ?_ Ab.out _;(with_reducible repeat (first|refine blk_drewN ?_ _|refine blk_drew ?_|refine blk_alloc ?_ _));refine blk_far ?_ A1.out _;(with_reducible repeat (first|refine blk_drewN ?_ _|refine blk_drew ?_|refine blk_alloc ?_ _));refine blk_far ?_ A1.out _;(with_reducible repeat (first|refine blk_drewN ?_ _|refine blk_drew ?_|refine blk_alloc ?_ _));exact A0.out⟩,⟨by (with_reducible repeat (first|refine blk_drewN ?_ _|refine blk_drew ?_|refine blk_alloc ?_ _));refine blk_far ?_ Ac.out _;(with_reducible repeat (first|refine blk_drewN ?_ _|refine blk_drew ?_|refine blk_alloc ?_ _));refine blk_far ?_ Ac.out _;(with_reducible repeat (first|refine blk_drewN ?_ _|refine blk_drew ?_|refine blk_alloc ?_ _));refine blk_far ?_ A9.out _;(with_reducible repeat (first|refine blk_drewN ?_ _|refine blk_drew ?_|refine blk_alloc ?_ _));refine blk_far ?_ A9.out _;(with_reducible repeat (first|refine blk_drewN ?_ _|refine blk_drew ?_|refine blk_alloc ?_ _));exact A8.out⟩,⟨by (with_reducible repeat (first|refine blk_drewN ?_ _|refine blk_drew ?_|refine blk_alloc ?_ _));refine blk_put (cs:=#[.int .i64 B8,.string A5]) ?_ 1 _ rfl;(with_reducible repeat (first|refine blk_drewN ?_ _|refine blk_drew ?_|refine blk_alloc ?_ _));refine blk_put (cs:=#[.int .i64 A6,.string A5]) ?_ 0 _ rfl;(with_reducible repeat (first|refine blk_drewN ?_ _|refine blk_drew ?_|refine blk_alloc ?_ _));refine blk_far ?_ A7.out _;(with_reducible repeat (first|refine blk_drewN ?_ _|refine blk_drew ?_|refine blk_alloc ?_ _));refine blk_far ?_ A7.out _;(with_reducible repeat (first|refine blk_drewN ?_ _|refine blk_drew ?_|refine blk_alloc ?_ _));exact A4.out⟩,⟨by exact tb HB⟩⟩
    ·rw [if_neg c11] at H
     exact absurd H (by simp)
   ·rw [if_neg c10] at H
    have c10b0:decide (Ah < (Aa.length:Int))=false:=decide_eq_false c10;clear c10
    simp only [Option.some.injEq,Prod.mk.injEq] at H
    obtain ⟨rfl,rfl⟩:=H
    have hnb28:=Ay.out;have hnc28:=Az.out;have hnb29:=Ab.out;have hnc29:=B0.out;have hcz30__:=c11_ A0;have hfz30__:=f_ A0;have hnb31:=B1.out;have hnc31:=Ac.out;have hcz32__:=c2_ A4;have hfz32__:=f_ A4;have hcz33__:=c2_ A8;have hfz33__:=f_ A8
    go_wp2
    refine bodyPost_ret (results_cell_row rfl _ _ B2 29 #[.int .i64 A6,.string A5] (0,0) _ rfl (by (with_reducible repeat (first|refine blk_drewN ?_ _|refine blk_drew ?_|refine blk_alloc ?_ _));exact bp2 A8.out) Try.underlying29 rfl (by kernel_rfl)) rfl ?_
    exact ⟨er,tb HB⟩
def spec_l09Down.f (k:Nat) (A9:List Bool) (Ac:Int) (Ad:ByteArray) (Af:Int) (Ag:List Int) (Ap:Int) (Ah:Bool) (Ak:Int) (Al:Int) (Am:Int) (A7:List (S86)):Option (List Bool × Int × ByteArray × Int × List Int × Int × Bool × Int × Int × Int × (List (S86))):=(spec_l09Left.f k A9 Ac Ad Af Ag Ap Ah Ak Al Am A7).bind fun bt103=>((spec_Known.f k bt103.1 bt103.2).bind fun As=>(if As ≥ 0 then (some (A9,Ac,Ad,Af,Ag,As,Ah,Ak,wrap64 (Al + 1),Am,A7)) else ((spec_TableKey.f k bt103.1 bt103.2).bind fun B5=>((spec_l09Find.f k A7 B5).bind fun Ao=>(if Ao ≥ 0 then (some (A9,Ac,Ad,Af,Ag,Ao,Ah,Ak,Al,wrap64 (Am + 1),A7)) else (if Ag.length < 17592186044416 then (some (A9,Ac,Ad,Af,(Ag ++ [0]),Ap,Ah,Ak,Al,Am,A7)) else (none)))))))
set_option maxHeartbeats 80000000 in
set_option maxRecDepth 100000 in
theorem spec_l09Down.calls (k:Nat) (Ai:Nat→Prop) (u9000_:Value) (A9:List Bool) (Ac:Int) (Ad:ByteArray) (Af:Int) (Aj:Nat→Prop) (u9001_:Value) (Ag:List Int) (Ap:Int) (Ah:Bool) (Ak:Int) (Al:Int) (Am:Int) (Aa:Nat→Prop) (u9002_:Value) (A7:List (S86)) (r1:List Bool) (r2:Int) (r3:ByteArray) (r4:Int) (r5:List Int) (r6:Int) (r7:Bool) (r8:Int) (r9:Int) (r10:Int) (r11:List (S86)) (w0 w:World) (hB:Below w0.heap.size w0 w) (ho0_0:Kd.R Kd.bool 4 w w0.heap.size Ai u9000_ A9) (ho0_4:Kd.R (Kd.int .i64) 3 w w0.heap.size Aj u9001_ Ag) (ho0_10:Kd.R k86 86 w w0.heap.size Aa u9002_ A7) (h:spec_l09Down.f k A9 Ac Ad Af Ag Ap Ah Ak Al Am A7=some (r1,r2,r3,r4,r5,r6,r7,r8,r9,r10,r11)) :
  Calls Try.prog 113 #[.agg #[u9000_,.int .i64 Ac,.string Ad,.int .i64 Af,u9001_,.int .i64 Ap,.bool Ah,.int .i64 Ak,.int .i64 Al,.int .i64 Am,u9002_]] w fun e w'=>∃ v0_ v4_ v10_:Value,e = .returned (.agg #[v0_,.int .i64 r2,.string r3,.int .i64 r4,v4_,.int .i64 r6,.bool r7,.int .i64 r8,.int .i64 r9,.int .i64 r10,v10_])∧Kd.R Kd.bool 4 w' w0.heap.size (fun k_=>((Ai k_∨Aj k_∨Aa k_)∨w.heap.size≤k_)) v0_ r1∧Kd.R (Kd.int .i64) 3 w' w0.heap.size (fun k_=>((Ai k_∨Aj k_∨Aa k_)∨w.heap.size≤k_)) v4_ r5∧Kd.R k86 86 w' w0.heap.size (fun k_=>((Ai k_∨Aj k_∨Aa k_)∨w.heap.size≤k_)) v10_ r11∧Below w0.heap.size w0 w'∧Kept w w' (fun k_=>Ai k_∨Aj k_∨Aa k_):=by
 have hu36:=Try.underlying36;have hu29:=Try.underlying29
 have A8:=Aside0.mk (show Kd.R Kd.bool 4 w w0.heap.size (fun k_=>((Ai k_∨Aj k_∨Aa k_)∨w.heap.size≤k_)) u9000_ A9 from Kd.R_mono ho0_0 (fun k_ hk=>(.inl (.inl hk))))
 have A6:=Aside0.mk (show Kd.R (Kd.int .i64) 3 w w0.heap.size (fun k_=>((Ai k_∨Aj k_∨Aa k_)∨w.heap.size≤k_)) u9001_ Ag from Kd.R_mono ho0_4 (fun k_ hk=>(.inl (.inr (.inl hk)))))
 have A4:=Aside0.mk (show Kd.R k86 86 w w0.heap.size (fun k_=>((Ai k_∨Aj k_∨Aa k_)∨w.heap.size≤k_)) u9002_ A7 from Kd.R_mono ho0_10 (fun k_ hk=>(.inl (.inr (.inr hk)))))
 have HK:=Aside0.mk (Kept.refl w (fun k_=>Ai k_∨Aj k_∨Aa k_))
 have HW0:=Aside0.mk hB.size;have HB:=Aside0.mk hB;clear hB
 have H:((spec_l09Left.f k A9 Ac Ad Af Ag Ap Ah Ak Al Am A7).bind fun bt103=>((spec_Known.f k bt103.1 bt103.2).bind fun As=>(if As ≥ 0 then (some (A9,Ac,Ad,Af,Ag,As,Ah,Ak,wrap64 (Al + 1),Am,A7)) else ((spec_TableKey.f k bt103.1 bt103.2).bind fun B5=>((spec_l09Find.f k A7 B5).bind fun Ao=>(if Ao ≥ 0 then (some (A9,Ac,Ad,Af,Ag,Ao,Ah,Ak,Al,wrap64 (Am + 1),A7)) else (if Ag.length < 17592186044416 then (some (A9,Ac,Ad,Af,(Ag ++ [0]),Ap,Ah,Ak,Al,Am,A7)) else (none))))))))=some (r1,r2,r3,r4,r5,r6,r7,r8,r9,r10,r11):=h
 clear h
 replace H:=Option.bind_eq_some_iff.mp H
 obtain ⟨⟨Av,Aw⟩,A20,H⟩:=H
 replace H:((spec_Known.f k Av Aw).bind fun As=>(if As ≥ 0 then (some (A9,Ac,Ad,Af,Ag,As,Ah,Ak,wrap64 (Al + 1),Am,A7)) else ((spec_TableKey.f k Av Aw).bind fun B5=>((spec_l09Find.f k A7 B5).bind fun Ao=>(if Ao ≥ 0 then (some (A9,Ac,Ad,Af,Ag,Ao,Ah,Ak,Al,wrap64 (Am + 1),A7)) else (if Ag.length < 17592186044416 then (some (A9,Ac,Ad,Af,(Ag ++ [0]),Ap,Ah,Ak,Al,Am,A7)) else (none)))))))=some (r1,r2,r3,r4,r5,r6,r7,r8,r9,r10,r11):=H
 have A2:=Aside0.mk A20;clear A20
 replace H:=Option.bind_eq_some_iff.mp H
 obtain ⟨As,A30,H⟩:=H
 replace H:(if As ≥ 0 then (some (A9,Ac,Ad,Af,Ag,As,Ah,Ak,wrap64 (Al + 1),Am,A7)) else ((spec_TableKey.f k Av Aw).bind fun B5=>((spec_l09Find.f k A7 B5).bind fun Ao=>(if Ao ≥ 0 then (some (A9,Ac,Ad,Af,Ag,Ao,Ah,Ak,Al,wrap64 (Am + 1),A7)) else (if Ag.length < 17592186044416 then (some (A9,Ac,Ad,Af,(Ag ++ [0]),Ap,Ah,Ak,Al,Am,A7)) else (none))))))=some (r1,r2,r3,r4,r5,r6,r7,r8,r9,r10,r11):=H
 have A3:=Aside0.mk A30;clear A30
 by_cases c4:As ≥ 0
 ·rw [if_pos c4] at H
  have c4b0:decide (0≤As)=true:=decide_eq_true c4;clear c4
  simp only [Option.some.injEq,Prod.mk.injEq] at H
  obtain ⟨rfl,rfl,rfl,rfl,rfl,rfl,rfl,rfl,rfl,rfl,rfl⟩:=H
  obtain ⟨Bf,Bg,eo5⟩:=Kd.R_slice A8.out
  subst eo5
  obtain ⟨Bh,Bi,eo6⟩:=Kd.R_slice A6.out
  subst eo6
  obtain ⟨Bp,Bq,eo7⟩:=Kd.R_slice A4.out
  subst eo7
  go_enter Try.func113,Try.ntmps113
  go_wp2_with (first|((with_reducible refine gate_dst (N:=1) rfl ?_);refine bx (N:=1) (cs:=#[.slice Bf A9.length Bg,.int .i64 Ac,.string Ad,.int .i64 Af,.slice Bh Ag.length Bi,.int .i64 Ap,.bool Ah,.int .i64 Ak,.int .i64 Al,.int .i64 Am,.slice Bp A7.length Bq]) (t:=36) ?_;intro Ae hg w8 hbox hb;replace A8:=rb A8 hb;replace A6:=rb A6 hb;replace A4:=rb A4 hb;have A0:=Aside0.mk (hbox);have Bl:=Aside0.mk ((by rw [hg];exact (by first|exact HK.out.1|exact (show Kept w _ (fun k_=>Ai k_∨Aj k_∨Aa k_) from tk HK).1):w.heap.size≤Ae));replace HK:=Aside0.mk (Kept.below (S:=(fun k_=>Ai k_∨Aj k_∨Aa k_)) (tk HK) hb);have At:=Aside0.mk ((by rw [hg];exact (below_size (tb HB)):w0.heap.size≤Ae));replace HB:=bs0 HB hb;clear hb hbox hg)|((with_reducible refine gate_dst (N:=2) rfl ?_);refine bx (N:=2) (cs:=#[.slice none 0 0,.int .i64 0,.string (⟨#[]⟩:ByteArray),.int .i64 0,.slice none 0 0,.int .i64 0,.bool false,.int .i64 0,.int .i64 0,.int .i64 0,.slice none 0 0]) (t:=36) ?_;intro A1 hg w9 hbox hb;replace A8:=rb A8 hb;replace A6:=rb A6 hb;replace A4:=rb A4 hb;have A5:=Aside0.mk (hbox);have Bm:=Aside0.mk ((by rw [hg];exact (by first|exact HK.out.1|exact (show Kept w _ (fun k_=>Ai k_∨Aj k_∨Aa k_) from tk HK).1):w.heap.size≤A1));replace HK:=Aside0.mk (Kept.below (S:=(fun k_=>Ai k_∨Aj k_∨Aa k_)) (tk HK) hb);have Ax:=Aside0.mk ((by rw [hg];exact (below_size (tb HB)):w0.heap.size≤A1));replace HB:=bs1 HB hb At;have Ay:=nl hg A0;have An:=ng hg A0;replace A0:=bb A0 hb;clear hb hbox hg;have hnb10:=Ay.out;have hnc10:=An.out;have hcz11__:=c11_ A0;have hfz11__:=f_ A0)|((with_reducible refine gate_callee (f:=79) rfl ?_);refine goesL_ (some 6) rfl rfl Try.func79 (by kernel_rfl) rfl #[.agg #[.slice Bf A9.length Bg,.int .i64 Ac,.string Ad,.int .i64 Af,.slice Bh Ag.length Bi,.int .i64 Ap,.bool Ah,.int .i64 Ak,.int .i64 Al,.int .i64 Am,.slice Bp A7.length Bq]] rfl ml ?_;(with_reducible refine (spec_l09Left.calls k _ _ A9 Ac Ad Af _ _ Ag Ap Ah Ak Al Am _ _ A7 Av Aw _ ?side1 ?side2 ?side3 ?side4 ?side5 ?side6 A2.out).mono ?_);(case side1=>exact cw (Kd.R_reads' A8.out).2.2);(case side2=>exact (Kd.R_reads' A8.out).2.1);(case side3=>exact cw (Kd.R_reads' A6.out).2.2);(case side4=>exact (Kd.R_reads' A6.out).2.1);(case side5=>exact cw (Kd.R_reads' A4.out).2.2);(case side6=>exact (Kd.R_reads' A4.out).2.1);rintro e w12 ⟨rfl,hb⟩;refine ⟨_,rfl,?_⟩;replace A8:=rb A8 hb;replace A6:=rb A6 hb;replace A4:=rb A4 hb;replace A0:=bb A0 hb;replace A5:=bb A5 hb;replace HK:=Aside0.mk (Kept.below (S:=(fun k_=>Ai k_∨Aj k_∨Aa k_)) (tk HK) hb);replace HB:=bs2 HB hb At Ax;(try clear hb);(try clear hb2);(try clear hk);(try clear hi))|((with_reducible refine gate_dst (N:=3) rfl ?_);refine bx (N:=3) (cs:=#[.int .i64 0,.string (⟨#[]⟩:ByteArray)]) (t:=29) ?_;intro Au hg w13 hbox hb;replace A8:=rb A8 hb;replace A6:=rb A6 hb;replace A4:=rb A4 hb;have Ab:=Aside0.mk (hbox);have Bn:=Aside0.mk ((by rw [hg];exact (by first|exact HK.out.1|exact (show Kept w _ (fun k_=>Ai k_∨Aj k_∨Aa k_) from tk HK).1):w.heap.size≤Au));replace HK:=Aside0.mk (Kept.below (S:=(fun k_=>Ai k_∨Aj k_∨Aa k_)) (tk HK) hb);have Ba:=Aside0.mk ((by rw [hg];exact (below_size (tb HB)):w0.heap.size≤Au));replace HB:=bs2 HB hb At Ax;have Aq:=nl hg A0;have Az:=ng hg A0;replace A0:=bb A0 hb;have Ar:=nl hg A5;have B0:=ng hg A5;replace A5:=bb A5 hb;clear hb hbox hg;have hnb14:=Az.out;have hnc14:=Aq.out;have hnb15:=B0.out;have hnc15:=Ar.out;have hcz16__:=c2_ Ab;have hfz16__:=f_ Ab)|((with_reducible refine gate_callee (f:=120) rfl ?_);refine goesL_ (some 8) rfl rfl Try.func120 (by kernel_rfl) rfl #[.agg #[.int .i64 Av,.string Aw]] rfl ml ?_;(with_reducible refine (spec_Known.calls k Av Aw As _ A3.out).mono ?_);rintro e w17 ⟨rfl,hb⟩;refine ⟨_,rfl,?_⟩;replace A8:=rbf A8 Ab hb;replace A6:=rbf A6 Ab hb;replace A4:=rbf A4 Ab hb;replace A0:=Aside0.mk (blk_below (dq A0 Aq) hb);replace A5:=Aside0.mk (blk_below (dq A5 Ar) hb);replace Ab:=Aside0.mk (blk_below (g:=Au) (o := .cells #[.int .i64 Av,.string Aw] 29 (0,0)) (by (with_reducible repeat (first|refine blk_drewN ?_ _|refine blk_drew ?_|refine blk_alloc ?_ _));exact bp2 Ab.out) hb);replace HK:=Aside0.mk (Kept.below (S:=(fun k_=>Ai k_∨Aj k_∨Aa k_)) (tk HK) hb);replace HB:=bs3 HB hb At Ax Ba;(try clear hb);(try clear hb2);(try clear hk);(try clear hi);have hcz18__:=c11_ A0;have hfz18__:=f_ A0;have hcz19__:=c11_ A5;have hfz19__:=f_ A5))
  refine bodyPost_ret (results_cell_row rfl _ _ A1 36 #[.slice Bf A9.length Bg,.int .i64 Ac,.string Ad,.int .i64 Af,.slice Bh Ag.length Bi,.int .i64 As,.bool Ah,.int .i64 Ak,.int .i64 (wrap64 (Al + 1)),.int .i64 Am,.slice Bp A7.length Bq] (0,0) _ rfl (by (with_reducible repeat (first|refine blk_drewN ?_ _|refine blk_drew ?_|refine blk_alloc ?_ _));refine blk_put (cs:=#[.slice Bf A9.length Bg,.int .i64 Ac,.string Ad,.int .i64 Af,.slice Bh Ag.length Bi,.int .i64 As,.bool Ah,.int .i64 Ak,.int .i64 (wrap64 (Al + 1)),.int .i64 Am,.slice none 0 0]) ?_ 10 _ rfl;(with_reducible repeat (first|refine blk_drewN ?_ _|refine blk_drew ?_|refine blk_alloc ?_ _));refine blk_put (cs:=#[.slice Bf A9.length Bg,.int .i64 Ac,.string Ad,.int .i64 Af,.slice Bh Ag.length Bi,.int .i64 As,.bool Ah,.int .i64 Ak,.int .i64 (wrap64 (Al + 1)),.int .i64 0,.slice none 0 0]) ?_ 9 _ rfl;(with_reducible repeat (first|refine blk_drewN ?_ _|refine blk_drew ?_|refine blk_alloc ?_ _));refine blk_put (cs:=#[.slice Bf A9.length Bg,.int .i64 Ac,.string Ad,.int .i64 Af,.slice Bh Ag.length Bi,.int .i64 As,.bool Ah,.int .i64 Ak,.int .i64 0,.int .i64 0,.slice none 0 0]) ?_ 8 _ rfl;(with_reducible repeat (first|refine blk_drewN ?_ _|refine blk_drew ?_|refine blk_alloc ?_ _));refine blk_put (cs:=#[.slice Bf A9.length Bg,.int .i64 Ac,.string Ad,.int .i64 Af,.slice Bh Ag.length Bi,.int .i64 As,.bool Ah,.int .i64 0,.int .i64 0,.int .i64 0,.slice none 0 0]) ?_ 7 _ rfl;(with_reducible repeat (first|refine blk_drewN ?_ _|refine blk_drew ?_|refine blk_alloc ?_ _));refine blk_put (cs:=#[.slice Bf A9.length Bg,.int .i64 Ac,.string Ad,.int .i64 Af,.slice Bh Ag.length Bi,.int .i64 As,.bool false,.int .i64 0,.int .i64 0,.int .i64 0,.slice none 0 0]) ?_ 6 _ rfl;(with_reducible repeat (first|refine blk_drewN ?_ _|refine blk_drew ?_|refine blk_alloc ?_ _));refine blk_put (cs:=#[.slice Bf A9.length Bg,.int .i64 Ac,.string Ad,.int .i64 Af,.slice Bh Ag.length Bi,.int .i64 0,.bool false,.int .i64 0,.int .i64 0,.int .i64 0,.slice none 0 0]) ?_ 5 _ rfl;(with_reducible repeat (first|refine blk_drewN ?_ _|refine blk_drew ?_|refine blk_alloc ?_ _));refine blk_put (cs:=#[.slice Bf A9.length Bg,.int .i64 Ac,.string Ad,.int .i64 Af,.slice none 0 0,.int .i64 0,.bool false,.int .i64 0,.int .i64 0,.int .i64 0,.slice none 0 0]) ?_ 4 _ rfl;(with_reducible repeat (first|refine blk_drewN ?_ _|refine blk_drew ?_|refine blk_alloc ?_ _));refine blk_put (cs:=#[.slice Bf A9.length Bg,.int .i64 Ac,.string Ad,.int .i64 0,.slice none 0 0,.int .i64 0,.bool false,.int .i64 0,.int .i64 0,.int .i64 0,.slice none 0 0]) ?_ 3 _ rfl;(with_reducible repeat (first|refine blk_drewN ?_ _|refine blk_drew ?_|refine blk_alloc ?_ _));refine blk_put (cs:=#[.slice Bf A9.length Bg,.int .i64 Ac,.string (⟨#[]⟩:ByteArray),.int .i64 0,.slice none 0 0,.int .i64 0,.bool false,.int .i64 0,.int .i64 0,.int .i64 0,.slice none 0 0]) ?_ 2 _ rfl;(with_reducible repeat (first|refine blk_drewN ?_ _|refine blk_drew ?_|refine blk_alloc ?_ _));refine blk_put (cs:=#[.slice Bf A9.length Bg,.int .i64 0,.string (⟨#[]⟩:ByteArray),.int .i64 0,.slice none 0 0,.int .i64 0,.bool false,.int .i64 0,.int .i64 0,.int .i64 0,.slice none 0 0]) ?_ 1 _ rfl;(with_reducible repeat (first|refine blk_drewN ?_ _|refine blk_drew ?_|refine blk_alloc ?_ _));refine blk_put (cs:=#[.slice none 0 0,.int .i64 0,.string (⟨#[]⟩:ByteArray),.int .i64 0,.slice none 0 0,.int .i64 0,.bool false,.int .i64 0,.int .i64 0,.int .i64 0,.slice none 0 0]) ?_ 0 _ rfl;(with_reducible repeat (first|refine blk_drewN ?_ _|refine blk_drew ?_|refine blk_alloc ?_ _));refine blk_far ?_ An.out _;(with_reducible repeat (first|refine blk_drewN ?_ _|refine blk_drew ?_|refine blk_alloc ?_ _));refine blk_far ?_ An.out _;(with_reducible repeat (first|refine blk_drewN ?_ _|refine blk_drew ?_|refine blk_alloc ?_ _));exact A5.out) Try.underlying36 rfl (by kernel_rfl)) rfl ?_
  exact ⟨_,_,_,er,by (with_reducible repeat (first|apply Kd.R_alloc|apply Kd.R_drewN|apply Kd.R_drew));exact Kd.R_mono (Kd.R_far (p:=⟨A1,10,none⟩) (Kd.R_far (p:=⟨A1,9,none⟩) (Kd.R_far (p:=⟨A1,8,none⟩) (Kd.R_far (p:=⟨A1,7,none⟩) (Kd.R_far (p:=⟨A1,6,none⟩) (Kd.R_far (p:=⟨A1,5,none⟩) (Kd.R_far (p:=⟨A1,4,none⟩) (Kd.R_far (p:=⟨A1,3,none⟩) (Kd.R_far (p:=⟨A1,2,none⟩) (Kd.R_far (p:=⟨A1,1,none⟩) (Kd.R_far (p:=⟨A1,0,none⟩) (Kd.R_far (p:=⟨Ae,8,none⟩) (Kd.R_far (p:=⟨Ae,5,none⟩) (Kd.R_types (Kd.R_types A8.out A0.out (by decide)) A5.out (by decide)) (fun _ hk=>hk.1.2) (.int .i64 As)) (fun _ hk=>hk.1.2) (.int .i64 (wrap64 (Al + 1)))) (fun _ hk=>hk.2) (.slice Bf A9.length Bg)) (fun _ hk=>hk.2) (.int .i64 Ac)) (fun _ hk=>hk.2) (.string Ad)) (fun _ hk=>hk.2) (.int .i64 Af)) (fun _ hk=>hk.2) (.slice Bh Ag.length Bi)) (fun _ hk=>hk.2) (.int .i64 As)) (fun _ hk=>hk.2) (.bool Ah)) (fun _ hk=>hk.2) (.int .i64 Ak)) (fun _ hk=>hk.2) (.int .i64 (wrap64 (Al + 1)))) (fun _ hk=>hk.2) (.int .i64 Am)) (fun _ hk=>hk.2) (.slice Bp A7.length Bq)) (fun _ hk=>hk.1.1),by (with_reducible repeat (first|apply Kd.R_alloc|apply Kd.R_drewN|apply Kd.R_drew));exact Kd.R_mono (Kd.R_far (p:=⟨A1,10,none⟩) (Kd.R_far (p:=⟨A1,9,none⟩) (Kd.R_far (p:=⟨A1,8,none⟩) (Kd.R_far (p:=⟨A1,7,none⟩) (Kd.R_far (p:=⟨A1,6,none⟩) (Kd.R_far (p:=⟨A1,5,none⟩) (Kd.R_far (p:=⟨A1,4,none⟩) (Kd.R_far (p:=⟨A1,3,none⟩) (Kd.R_far (p:=⟨A1,2,none⟩) (Kd.R_far (p:=⟨A1,1,none⟩) (Kd.R_far (p:=⟨A1,0,none⟩) (Kd.R_far (p:=⟨Ae,8,none⟩) (Kd.R_far (p:=⟨Ae,5,none⟩) (Kd.R_types (Kd.R_types A6.out A0.out (by decide)) A5.out (by decide)) (fun _ hk=>hk.1.2) (.int .i64 As)) (fun _ hk=>hk.1.2) (.int .i64 (wrap64 (Al + 1)))) (fun _ hk=>hk.2) (.slice Bf A9.length Bg)) (fun _ hk=>hk.2) (.int .i64 Ac)) (fun _ hk=>hk.2) (.string Ad)) (fun _ hk=>hk.2) (.int .i64 Af)) (fun _ hk=>hk.2) (.slice Bh Ag.length Bi)) (fun _ hk=>hk.2) (.int .i64 As)) (fun _ hk=>hk.2) (.bool Ah)) (fun _ hk=>hk.2) (.int .i64 Ak)) (fun _ hk=>hk.2) (.int .i64 (wrap64 (Al + 1)))) (fun _ hk=>hk.2) (.int .i64 Am)) (fun _ hk=>hk.2) (.slice Bp A7.length Bq)) (fun _ hk=>hk.1.1),by (with_reducible repeat (first|apply Kd.R_alloc|apply Kd.R_drewN|apply Kd.R_drew));exact Kd.R_mono (Kd.R_far (p:=⟨A1,10,none⟩) (Kd.R_far (p:=⟨A1,9,none⟩) (Kd.R_far (p:=⟨A1,8,none⟩) (Kd.R_far (p:=⟨A1,7,none⟩) (Kd.R_far (p:=⟨A1,6,none⟩) (Kd.R_far (p:=⟨A1,5,none⟩) (Kd.R_far (p:=⟨A1,4,none⟩) (Kd.R_far (p:=⟨A1,3,none⟩) (Kd.R_far (p:=⟨A1,2,none⟩) (Kd.R_far (p:=⟨A1,1,none⟩) (Kd.R_far (p:=⟨A1,0,none⟩) (Kd.R_far (p:=⟨Ae,8,none⟩) (Kd.R_far (p:=⟨Ae,5,none⟩) (Kd.R_types (Kd.R_types A4.out A0.out (by decide)) A5.out (by decide)) (fun _ hk=>hk.1.2) (.int .i64 As)) (fun _ hk=>hk.1.2) (.int .i64 (wrap64 (Al + 1)))) (fun _ hk=>hk.2) (.slice Bf A9.length Bg)) (fun _ hk=>hk.2) (.int .i64 Ac)) (fun _ hk=>hk.2) (.string Ad)) (fun _ hk=>hk.2) (.int .i64 Af)) (fun _ hk=>hk.2) (.slice Bh Ag.length Bi)) (fun _ hk=>hk.2) (.int .i64 As)) (fun _ hk=>hk.2) (.bool Ah)) (fun _ hk=>hk.2) (.int .i64 Ak)) (fun _ hk=>hk.2) (.int .i64 (wrap64 (Al + 1)))) (fun _ hk=>hk.2) (.int .i64 Am)) (fun _ hk=>hk.2) (.slice Bp A7.length Bq)) (fun _ hk=>hk.1.1),tb HB,tk HK⟩
 ·rw [if_neg c4] at H
  have c4b0:decide (0≤As)=false:=decide_eq_false c4;clear c4
  replace H:=Option.bind_eq_some_iff.mp H
  obtain ⟨B5,A200,H⟩:=H
  replace H:((spec_l09Find.f k A7 B5).bind fun Ao=>(if Ao ≥ 0 then (some (A9,Ac,Ad,Af,Ag,Ao,Ah,Ak,Al,wrap64 (Am + 1),A7)) else (if Ag.length < 17592186044416 then (some (A9,Ac,Ad,Af,(Ag ++ [0]),Ap,Ah,Ak,Al,Am,A7)) else (none))))=some (r1,r2,r3,r4,r5,r6,r7,r8,r9,r10,r11):=H
  have A20:=Aside0.mk A200;clear A200
  replace H:=Option.bind_eq_some_iff.mp H
  obtain ⟨Ao,A210,H⟩:=H
  replace H:(if Ao ≥ 0 then (some (A9,Ac,Ad,Af,Ag,Ao,Ah,Ak,Al,wrap64 (Am + 1),A7)) else (if Ag.length < 17592186044416 then (some (A9,Ac,Ad,Af,(Ag ++ [0]),Ap,Ah,Ak,Al,Am,A7)) else (none)))=some (r1,r2,r3,r4,r5,r6,r7,r8,r9,r10,r11):=H
  have A21:=Aside0.mk A210;clear A210
  by_cases c22:Ao ≥ 0
  ·rw [if_pos c22] at H
   have c22b0:decide (0≤Ao)=true:=decide_eq_true c22;clear c22
   simp only [Option.some.injEq,Prod.mk.injEq] at H
   obtain ⟨rfl,rfl,rfl,rfl,rfl,rfl,rfl,rfl,rfl,rfl,rfl⟩:=H
   obtain ⟨B3,B4,eo23⟩:=Kd.R_slice A8.out
   subst eo23
   obtain ⟨B6,B7,eo24⟩:=Kd.R_slice A6.out
   subst eo24
   obtain ⟨Bd,Be,eo25⟩:=Kd.R_slice A4.out
   subst eo25
   go_enter Try.func113,Try.ntmps113
   try go_wp2_with (first|((with_reducible refine gate_dst (N:=1) rfl ?_);refine bx (N:=1) (cs:=#[.slice B3 A9.length B4,.int .i64 Ac,.string Ad,.int .i64 Af,.slice B6 Ag.length B7,.int .i64 Ap,.bool Ah,.int .i64 Ak,.int .i64 Al,.int .i64 Am,.slice Bd A7.length Be]) (t:=36) ?_;intro Ae hg w26 hbox hb;replace A8:=rb A8 hb;replace A6:=rb A6 hb;replace A4:=rb A4 hb;have A0:=Aside0.mk (hbox);have Bl:=Aside0.mk ((by rw [hg];exact (by first|exact HK.out.1|exact (show Kept w _ (fun k_=>Ai k_∨Aj k_∨Aa k_) from tk HK).1):w.heap.size≤Ae));replace HK:=Aside0.mk (Kept.below (S:=(fun k_=>Ai k_∨Aj k_∨Aa k_)) (tk HK) hb);have At:=Aside0.mk ((by rw [hg];exact (below_size (tb HB)):w0.heap.size≤Ae));replace HB:=bs0 HB hb;clear hb hbox hg)|((with_reducible refine gate_dst (N:=2) rfl ?_);refine bx (N:=2) (cs:=#[.slice none 0 0,.int .i64 0,.string (⟨#[]⟩:ByteArray),.int .i64 0,.slice none 0 0,.int .i64 0,.bool false,.int .i64 0,.int .i64 0,.int .i64 0,.slice none 0 0]) (t:=36) ?_;intro A1 hg w27 hbox hb;replace A8:=rb A8 hb;replace A6:=rb A6 hb;replace A4:=rb A4 hb;have A5:=Aside0.mk (hbox);have Bm:=Aside0.mk ((by rw [hg];exact (by first|exact HK.out.1|exact (show Kept w _ (fun k_=>Ai k_∨Aj k_∨Aa k_) from tk HK).1):w.heap.size≤A1));replace HK:=Aside0.mk (Kept.below (S:=(fun k_=>Ai k_∨Aj k_∨Aa k_)) (tk HK) hb);have Ax:=Aside0.mk ((by rw [hg];exact (below_size (tb HB)):w0.heap.size≤A1));replace HB:=bs1 HB hb At;have Ay:=nl hg A0;have An:=ng hg A0;replace A0:=bb A0 hb;clear hb hbox hg;have hnb28:=Ay.out;have hnc28:=An.out;have hcz29__:=c11_ A0;have hfz29__:=f_ A0)|((with_reducible refine gate_callee (f:=79) rfl ?_);refine goesL_ (some 6) rfl rfl Try.func79 (by kernel_rfl) rfl #[.agg #[.slice B3 A9.length B4,.int .i64 Ac,.string Ad,.int .i64 Af,.slice B6 Ag.length B7,.int .i64 Ap,.bool Ah,.int .i64 Ak,.int .i64 Al,.int .i64 Am,.slice Bd A7.length Be]] rfl ml ?_;(with_reducible refine (spec_l09Left.calls k _ _ A9 Ac Ad Af _ _ Ag Ap Ah Ak Al Am _ _ A7 Av Aw _ ?side1 ?side2 ?side3 ?side4 ?side5 ?side6 A2.out).mono ?_);(case side1=>exact cw (Kd.R_reads' A8.out).2.2);(case side2=>exact (Kd.R_reads' A8.out).2.1);(case side3=>exact cw (Kd.R_reads' A6.out).2.2);(case side4=>exact (Kd.R_reads' A6.out).2.1);(case side5=>exact cw (Kd.R_reads' A4.out).2.2);(case side6=>exact (Kd.R_reads' A4.out).2.1);rintro e w30 ⟨rfl,hb⟩;refine ⟨_,rfl,?_⟩;replace A8:=rb A8 hb;replace A6:=rb A6 hb;replace A4:=rb A4 hb;replace A0:=bb A0 hb;replace A5:=bb A5 hb;replace HK:=Aside0.mk (Kept.below (S:=(fun k_=>Ai k_∨Aj k_∨Aa k_)) (tk HK) hb);replace HB:=bs2 HB hb At Ax;(try clear hb);(try clear hb2);(try clear hk);(try clear hi))|((with_reducible refine gate_dst (N:=3) rfl ?_);refine bx (N:=3) (cs:=#[.int .i64 0,.string (⟨#[]⟩:ByteArray)]) (t:=29) ?_;intro Au hg w31 hbox hb;replace A8:=rb A8 hb;replace A6:=rb A6 hb;replace A4:=rb A4 hb;have Ab:=Aside0.mk (hbox);have Bn:=Aside0.mk ((by rw [hg];exact (by first|exact HK.out.1|exact (show Kept w _ (fun k_=>Ai k_∨Aj k_∨Aa k_) from tk HK).1):w.heap.size≤Au));replace HK:=Aside0.mk (Kept.below (S:=(fun k_=>Ai k_∨Aj k_∨Aa k_)) (tk HK) hb);have Ba:=Aside0.mk ((by rw [hg];exact (below_size (tb HB)):w0.heap.size≤Au));replace HB:=bs2 HB hb At Ax;have Aq:=nl hg A0;have Az:=ng hg A0;replace A0:=bb A0 hb;have Ar:=nl hg A5;have B0:=ng hg A5;replace A5:=bb A5 hb;clear hb hbox hg;have hnb32:=Az.out;have hnc32:=Aq.out;have hnb33:=B0.out;have hnc33:=Ar.out;have hcz34__:=c2_ Ab;have hfz34__:=f_ Ab)|((with_reducible refine gate_callee (f:=120) rfl ?_);refine goesL_ (some 8) rfl rfl Try.func120 (by kernel_rfl) rfl #[.agg #[.int .i64 Av,.string Aw]] rfl ml ?_;(with_reducible refine (spec_Known.calls k Av Aw As _ A3.out).mono ?_);rintro e w35 ⟨rfl,hb⟩;refine ⟨_,rfl,?_⟩;replace A8:=rbf A8 Ab hb;replace A6:=rbf A6 Ab hb;replace A4:=rbf A4 Ab hb;replace A0:=Aside0.mk (blk_below (dq A0 Aq) hb);replace A5:=Aside0.mk (blk_below (dq A5 Ar) hb);replace Ab:=Aside0.mk (blk_below (g:=Au) (o := .cells #[.int .i64 Av,.string Aw] 29 (0,0)) (by (with_reducible repeat (first|refine blk_drewN ?_ _|refine blk_drew ?_|refine blk_alloc ?_ _));exact bp2 Ab.out) hb);replace HK:=Aside0.mk (Kept.below (S:=(fun k_=>Ai k_∨Aj k_∨Aa k_)) (tk HK) hb);replace HB:=bs3 HB hb At Ax Ba;(try clear hb);(try clear hb2);(try clear hk);(try clear hi)))
   replace A8:=Aside0.mk (Kd.R_drew A8.out);replace A6:=Aside0.mk (Kd.R_drew A6.out);replace A4:=Aside0.mk (Kd.R_drew A4.out);replace A0:=Aside0.mk (blk_drew A0.out);replace A5:=Aside0.mk (blk_drew A5.out);replace Ab:=Aside0.mk (blk_drew Ab.out);replace HK:=Aside0.mk (Kept.drew HK.out);replace HB:=Aside0.mk (below_drew1 HB.out)
   refine start_ (n:=6) (S:=fun w'=>w'.cell? ⟨Ae,0,none⟩=some (.slice B3 A9.length B4)∧w'.cell? ⟨Ae,1,none⟩=some (.int .i64 Ac)∧w'.cell? ⟨Ae,2,none⟩=some (.string Ad)∧w'.cell? ⟨Ae,3,none⟩=some (.int .i64 Af)∧w'.cell? ⟨Ae,4,none⟩=some (.slice B6 Ag.length B7)∧w'.cell? ⟨Ae,5,none⟩=some (.int .i64 Ap)∧w'.cell? ⟨Ae,6,none⟩=some (.bool Ah)∧w'.cell? ⟨Ae,7,none⟩=some (.int .i64 Ak)∧w'.cell? ⟨Ae,8,none⟩=some (.int .i64 Al)∧w'.cell? ⟨Ae,9,none⟩=some (.int .i64 Am)∧w'.cell? ⟨Ae,10,none⟩=some (.slice Bd A7.length Be)∧w'.cell? ⟨Au,0,none⟩=some (.int .i64 Av)∧w'.cell? ⟨Au,1,none⟩=some (.string Aw)) (ds:=[]) #[false,false,false,false,false,false] (by kernel_rfl) rfl rfl ⟨(blk_cell A0.out 0).trans rfl,(blk_cell A0.out 1).trans rfl,(blk_cell A0.out 2).trans rfl,(blk_cell A0.out 3).trans rfl,(blk_cell A0.out 4).trans rfl,(blk_cell A0.out 5).trans rfl,(blk_cell A0.out 6).trans rfl,(blk_cell A0.out 7).trans rfl,(blk_cell A0.out 8).trans rfl,(blk_cell A0.out 9).trans rfl,(blk_cell A0.out 10).trans rfl,(blk_cell Ab.out 0).trans rfl,(blk_cell Ab.out 1).trans rfl⟩ (fun hHeld=>?_)
   generalize w35.drew=w36 at A8 A6 A4 A0 A5 Ab HK HB hHeld ⊢
   refine pure_ (i:=0) (N:=some 18) (v:=?_) (a':=?_) #[true,false,false,false,false,false] rfl rfl (by kernel_rfl) (fun _ _ _ h=>h) (Or.inl ⟨by rfl,?_⟩) ?_ ?_
   rotate_left
   ·intro w'
    go_simp
    with_reducible rfl
   rotate_left
   ·simp only [Act.put,List.setIfInBounds_toArray,List.set_cons_zero,List.set_cons_succ,i64_w,i32_w]
    rfl
   refine take_ (i:=1) (N:=some 19) (v:=?_) (a':=?_) #[true,true,false,false,false,false] rfl rfl (by kernel_rfl) (fun _ _ _ h=>h) (Or.inl ⟨by rfl,?_⟩) hHeld ?_ ?_
   rotate_left
   ·rintro w' ⟨s0,s1,s2,s3,s4,s5,s6,s7,s8,s9,s10,s11,s12⟩
    go_simp
    with_reducible rfl
   rotate_left
   ·simp only [Act.put,List.setIfInBounds_toArray,List.set_cons_zero,List.set_cons_succ,i64_w,i32_w]
    rfl
   refine take_ (i:=2) (N:=some 20) (v:=?_) (a':=?_) #[true,true,true,false,false,false] rfl rfl (by kernel_rfl) (fun _ _ _ h=>h) (Or.inl ⟨by rfl,?_⟩) hHeld ?_ ?_
   rotate_left
   ·rintro w' ⟨s0,s1,s2,s3,s4,s5,s6,s7,s8,s9,s10,s11,s12⟩
    go_simp
    with_reducible rfl
   rotate_left
   ·simp only [Act.put,List.setIfInBounds_toArray,List.set_cons_zero,List.set_cons_succ,i64_w,i32_w]
    rfl
   refine one_ (i:=3) (N:=some 21) #[true,true,true,true,false,false] rfl rfl (by kernel_rfl) (by decide) (fun K hK=>?_)
   refine goes_ Try.func127 (by kernel_rfl) rfl #[.agg #[.int .i64 Av,.string Aw]] (by rfl) rfl rfl ml ?_
   with_reducible refine (spec_TableKey.calls k Av Aw B5 _ A20.out).mono ?_
   rintro e w37 ⟨rfl,hb⟩
   refine ⟨_,rfl,?_⟩
   have n0_:=rb A8 hb;have n1_:=rb A6 hb;have n2_:=rb A4 hb;have n3_:=bb A0 hb;have n4_:=bb A5 hb;have n5_:=bb Ab hb
   have n6_:=Aside0.mk (Kept.below (S:=(fun k_=>Ai k_∨Aj k_∨Aa k_)) (tk HK) hb)
   have n7_:=bs3 HB hb At Ax Ba;clear A8;clear A6;clear A4;clear A0;clear A5;clear Ab;clear HK;clear HB;have A8:=n0_;have A6:=n1_;have A4:=n2_;have A0:=n3_;have A5:=n4_;have Ab:=n5_;have HK:=n6_;have HB:=n7_;clear n0_ n1_ n2_ n3_ n4_ n5_ n6_ n7_
   (try clear hb)
   (try clear hb2)
   (try clear hk)
   (try clear hi)
   refine hK.out _ _ ⟨(blk_cell A0.out 0).trans rfl,(blk_cell A0.out 1).trans rfl,(blk_cell A0.out 2).trans rfl,(blk_cell A0.out 3).trans rfl,(blk_cell A0.out 4).trans rfl,(blk_cell A0.out 5).trans rfl,(blk_cell A0.out 6).trans rfl,(blk_cell A0.out 7).trans rfl,(blk_cell A0.out 8).trans rfl,(blk_cell A0.out 9).trans rfl,(blk_cell A0.out 10).trans rfl,(blk_cell Ab.out 0).trans rfl,(blk_cell Ab.out 1).trans rfl⟩ (fun hHeld=>?_)
   clear hK K
   refine norm_ (a':=?_) ?_ ?_
   rotate_left
   ·show Act.put _ (some 21) _=_
    simp only [Act.put,List.setIfInBounds_toArray,List.set_cons_zero,List.set_cons_succ,i64_w,i32_w]
    rfl
   refine one_ (i:=4) (N:=some 22) #[true,true,true,true,true,false] rfl rfl (by kernel_rfl) (by decide) (fun K hK=>?_)
   refine goes_ Try.func126 (by kernel_rfl) rfl #[.slice Bd A7.length Be,.string B5] (by rfl) rfl rfl ml ?_
   with_reducible refine (spec_l09Find.calls k _ _ A7 B5 Ao _ ?side1 ?side2 A21.out).mono ?_
   (case side1=>exact cw (Kd.R_reads' A4.out).2.2)
   (case side2=>exact (Kd.R_reads' A4.out).2.1)
   rintro e w' ⟨rfl,⟨nd,rfl⟩⟩
   refine ⟨_,rfl,?_⟩
   refine hK.out _ _ ⟨(blk_cell A0.out 0).trans rfl,(blk_cell A0.out 1).trans rfl,(blk_cell A0.out 2).trans rfl,(blk_cell A0.out 3).trans rfl,(blk_cell A0.out 4).trans rfl,(blk_cell A0.out 5).trans rfl,(blk_cell A0.out 6).trans rfl,(blk_cell A0.out 7).trans rfl,(blk_cell A0.out 8).trans rfl,(blk_cell A0.out 9).trans rfl,(blk_cell A0.out 10).trans rfl,(blk_cell Ab.out 0).trans rfl,(blk_cell Ab.out 1).trans rfl⟩ (fun hHeld=>?_)
   clear hK K
   refine norm_ (a':=?_) ?_ ?_
   rotate_left
   ·show Act.put _ (some 22) _=_
    simp only [Act.put,List.setIfInBounds_toArray,List.set_cons_zero,List.set_cons_succ,i64_w,i32_w]
    rfl
   refine pure_ (i:=5) (N:=some 4) (v:=?_) (a':=?_) #[true,true,true,true,true,true] rfl rfl (by kernel_rfl) (fun _ _ _ h=>h) (Or.inl ⟨by rfl,?_⟩) ?_ ?_
   rotate_left
   ·intro w'
    go_simp
    with_reducible rfl
   rotate_left
   ·simp only [Act.put,List.setIfInBounds_toArray,List.set_cons_zero,List.set_cons_succ,i64_w,i32_w]
    rfl
   refine done_ (by kernel_rfl) ?_
   have hcz38__:=c11_ A0;have hfz38__:=f_ A0;have hcz39__:=c11_ A5;have hfz39__:=f_ A5
   have hfz39_7:=blk_frozen A5.out 7;have hfz39_8:=blk_frozen A5.out 8;have hfz39_9:=blk_frozen A5.out 9;have hfz39_10:=blk_frozen A5.out 10
   try go_wp2
   refine bodyPost_ret (results_cell_row rfl _ _ A1 36 #[.slice B3 A9.length B4,.int .i64 Ac,.string Ad,.int .i64 Af,.slice B6 Ag.length B7,.int .i64 Ao,.bool Ah,.int .i64 Ak,.int .i64 Al,.int .i64 (wrap64 (Am + 1)),.slice Bd A7.length Be] (0,0) _ rfl (by (with_reducible repeat (first|refine blk_drewN ?_ _|refine blk_drew ?_|refine blk_alloc ?_ _));refine blk_put (cs:=#[.slice B3 A9.length B4,.int .i64 Ac,.string Ad,.int .i64 Af,.slice B6 Ag.length B7,.int .i64 Ao,.bool Ah,.int .i64 Ak,.int .i64 Al,.int .i64 (wrap64 (Am + 1)),.slice none 0 0]) ?_ 10 _ rfl;(with_reducible repeat (first|refine blk_drewN ?_ _|refine blk_drew ?_|refine blk_alloc ?_ _));refine blk_put (cs:=#[.slice B3 A9.length B4,.int .i64 Ac,.string Ad,.int .i64 Af,.slice B6 Ag.length B7,.int .i64 Ao,.bool Ah,.int .i64 Ak,.int .i64 Al,.int .i64 0,.slice none 0 0]) ?_ 9 _ rfl;(with_reducible repeat (first|refine blk_drewN ?_ _|refine blk_drew ?_|refine blk_alloc ?_ _));refine blk_put (cs:=#[.slice B3 A9.length B4,.int .i64 Ac,.string Ad,.int .i64 Af,.slice B6 Ag.length B7,.int .i64 Ao,.bool Ah,.int .i64 Ak,.int .i64 0,.int .i64 0,.slice none 0 0]) ?_ 8 _ rfl;(with_reducible repeat (first|refine blk_drewN ?_ _|refine blk_drew ?_|refine blk_alloc ?_ _));refine blk_put (cs:=#[.slice B3 A9.length B4,.int .i64 Ac,.string Ad,.int .i64 Af,.slice B6 Ag.length B7,.int .i64 Ao,.bool Ah,.int .i64 0,.int .i64 0,.int .i64 0,.slice none 0 0]) ?_ 7 _ rfl;(with_reducible repeat (first|refine blk_drewN ?_ _|refine blk_drew ?_|refine blk_alloc ?_ _));refine blk_put (cs:=#[.slice B3 A9.length B4,.int .i64 Ac,.string Ad,.int .i64 Af,.slice B6 Ag.length B7,.int .i64 Ao,.bool false,.int .i64 0,.int .i64 0,.int .i64 0,.slice none 0 0]) ?_ 6 _ rfl;(with_reducible repeat (first|refine blk_drewN ?_ _|refine blk_drew ?_|refine blk_alloc ?_ _));refine blk_put (cs:=#[.slice B3 A9.length B4,.int .i64 Ac,.string Ad,.int .i64 Af,.slice B6 Ag.length B7,.int .i64 0,.bool false,.int .i64 0,.int .i64 0,.int .i64 0,.slice none 0 0]) ?_ 5 _ rfl;(with_reducible repeat (first|refine blk_drewN ?_ _|refine blk_drew ?_|refine blk_alloc ?_ _));refine blk_put (cs:=#[.slice B3 A9.length B4,.int .i64 Ac,.string Ad,.int .i64 Af,.slice none 0 0,.int .i64 0,.bool false,.int .i64 0,.int .i64 0,.int .i64 0,.slice none 0 0]) ?_ 4 _ rfl;(with_reducible repeat (first|refine blk_drewN ?_ _|refine blk_drew ?_|refine blk_alloc ?_ _));refine blk_put (cs:=#[.slice B3 A9.length B4,.int .i64 Ac,.string Ad,.int .i64 0,.slice none 0 0,.int .i64 0,.bool false,.int .i64 0,.int .i64 0,.int .i64 0,.slice none 0 0]) ?_ 3 _ rfl;(with_reducible repeat (first|refine blk_drewN ?_ _|refine blk_drew ?_|refine blk_alloc ?_ _));refine blk_put (cs:=#[.slice B3 A9.length B4,.int .i64 Ac,.string (⟨#[]⟩:ByteArray),.int .i64 0,.slice none 0 0,.int .i64 0,.bool false,.int .i64 0,.int .i64 0,.int .i64 0,.slice none 0 0]) ?_ 2 _ rfl;(with_reducible repeat (first|refine blk_drewN ?_ _|refine blk_drew ?_|refine blk_alloc ?_ _));refine blk_put (cs:=#[.slice B3 A9.length B4,.int .i64 0,.string (⟨#[]⟩:ByteArray),.int .i64 0,.slice none 0 0,.int .i64 0,.bool false,.int .i64 0,.int .i64 0,.int .i64 0,.slice none 0 0]) ?_ 1 _ rfl;(with_reducible repeat (first|refine blk_drewN ?_ _|refine blk_drew ?_|refine blk_alloc ?_ _));refine blk_put (cs:=#[.slice none 0 0,.int .i64 0,.string (⟨#[]⟩:ByteArray),.int .i64 0,.slice none 0 0,.int .i64 0,.bool false,.int .i64 0,.int .i64 0,.int .i64 0,.slice none 0 0]) ?_ 0 _ rfl;(with_reducible repeat (first|refine blk_drewN ?_ _|refine blk_drew ?_|refine blk_alloc ?_ _));refine blk_far ?_ An.out _;(with_reducible repeat (first|refine blk_drewN ?_ _|refine blk_drew ?_|refine blk_alloc ?_ _));refine blk_far ?_ An.out _;(with_reducible repeat (first|refine blk_drewN ?_ _|refine blk_drew ?_|refine blk_alloc ?_ _));exact A5.out) Try.underlying36 rfl (by kernel_rfl)) rfl ?_
   exact ⟨_,_,_,er,by (with_reducible repeat (first|apply Kd.R_alloc|apply Kd.R_drewN|apply Kd.R_drew));exact Kd.R_mono (Kd.R_far (p:=⟨A1,10,none⟩) (Kd.R_far (p:=⟨A1,9,none⟩) (Kd.R_far (p:=⟨A1,8,none⟩) (Kd.R_far (p:=⟨A1,7,none⟩) (Kd.R_far (p:=⟨A1,6,none⟩) (Kd.R_far (p:=⟨A1,5,none⟩) (Kd.R_far (p:=⟨A1,4,none⟩) (Kd.R_far (p:=⟨A1,3,none⟩) (Kd.R_far (p:=⟨A1,2,none⟩) (Kd.R_far (p:=⟨A1,1,none⟩) (Kd.R_far (p:=⟨A1,0,none⟩) (Kd.R_far (p:=⟨Ae,9,none⟩) (Kd.R_far (p:=⟨Ae,5,none⟩) (Kd.R_types (Kd.R_types A8.out A0.out (by decide)) A5.out (by decide)) (fun _ hk=>hk.1.2) (.int .i64 Ao)) (fun _ hk=>hk.1.2) (.int .i64 (wrap64 (Am + 1)))) (fun _ hk=>hk.2) (.slice B3 A9.length B4)) (fun _ hk=>hk.2) (.int .i64 Ac)) (fun _ hk=>hk.2) (.string Ad)) (fun _ hk=>hk.2) (.int .i64 Af)) (fun _ hk=>hk.2) (.slice B6 Ag.length B7)) (fun _ hk=>hk.2) (.int .i64 Ao)) (fun _ hk=>hk.2) (.bool Ah)) (fun _ hk=>hk.2) (.int .i64 Ak)) (fun _ hk=>hk.2) (.int .i64 Al)) (fun _ hk=>hk.2) (.int .i64 (wrap64 (Am + 1)))) (fun _ hk=>hk.2) (.slice Bd A7.length Be)) (fun _ hk=>hk.1.1),by (with_reducible repeat (first|apply Kd.R_alloc|apply Kd.R_drewN|apply Kd.R_drew));exact Kd.R_mono (Kd.R_far (p:=⟨A1,10,none⟩) (Kd.R_far (p:=⟨A1,9,none⟩) (Kd.R_far (p:=⟨A1,8,none⟩) (Kd.R_far (p:=⟨A1,7,none⟩) (Kd.R_far (p:=⟨A1,6,none⟩) (Kd.R_far (p:=⟨A1,5,none⟩) (Kd.R_far (p:=⟨A1,4,none⟩) (Kd.R_far (p:=⟨A1,3,none⟩) (Kd.R_far (p:=⟨A1,2,none⟩) (Kd.R_far (p:=⟨A1,1,none⟩) (Kd.R_far (p:=⟨A1,0,none⟩) (Kd.R_far (p:=⟨Ae,9,none⟩) (Kd.R_far (p:=⟨Ae,5,none⟩) (Kd.R_types (Kd.R_types A6.out A0.out (by decide)) A5.out (by decide)) (fun _ hk=>hk.1.2) (.int .i64 Ao)) (fun _ hk=>hk.1.2) (.int .i64 (wrap64 (Am + 1)))) (fun _ hk=>hk.2) (.slice B3 A9.length B4)) (fun _ hk=>hk.2) (.int .i64 Ac)) (fun _ hk=>hk.2) (.string Ad)) (fun _ hk=>hk.2) (.int .i64 Af)) (fun _ hk=>hk.2) (.slice B6 Ag.length B7)) (fun _ hk=>hk.2) (.int .i64 Ao)) (fun _ hk=>hk.2) (.bool Ah)) (fun _ hk=>hk.2) (.int .i64 Ak)) (fun _ hk=>hk.2) (.int .i64 Al)) (fun _ hk=>hk.2) (.int .i64 (wrap64 (Am + 1)))) (fun _ hk=>hk.2) (.slice Bd A7.length Be)) (fun _ hk=>hk.1.1),by (with_reducible repeat (first|apply Kd.R_alloc|apply Kd.R_drewN|apply Kd.R_drew));exact Kd.R_mono (Kd.R_far (p:=⟨A1,10,none⟩) (Kd.R_far (p:=⟨A1,9,none⟩) (Kd.R_far (p:=⟨A1,8,none⟩) (Kd.R_far (p:=⟨A1,7,none⟩) (Kd.R_far (p:=⟨A1,6,none⟩) (Kd.R_far (p:=⟨A1,5,none⟩) (Kd.R_far (p:=⟨A1,4,none⟩) (Kd.R_far (p:=⟨A1,3,none⟩) (Kd.R_far (p:=⟨A1,2,none⟩) (Kd.R_far (p:=⟨A1,1,none⟩) (Kd.R_far (p:=⟨A1,0,none⟩) (Kd.R_far (p:=⟨Ae,9,none⟩) (Kd.R_far (p:=⟨Ae,5,none⟩) (Kd.R_types (Kd.R_types A4.out A0.out (by decide)) A5.out (by decide)) (fun _ hk=>hk.1.2) (.int .i64 Ao)) (fun _ hk=>hk.1.2) (.int .i64 (wrap64 (Am + 1)))) (fun _ hk=>hk.2) (.slice B3 A9.length B4)) (fun _ hk=>hk.2) (.int .i64 Ac)) (fun _ hk=>hk.2) (.string Ad)) (fun _ hk=>hk.2) (.int .i64 Af)) (fun _ hk=>hk.2) (.slice B6 Ag.length B7)) (fun _ hk=>hk.2) (.int .i64 Ao)) (fun _ hk=>hk.2) (.bool Ah)) (fun _ hk=>hk.2) (.int .i64 Ak)) (fun _ hk=>hk.2) (.int .i64 Al)) (fun _ hk=>hk.2) (.int .i64 (wrap64 (Am + 1)))) (fun _ hk=>hk.2) (.slice Bd A7.length Be)) (fun _ hk=>hk.1.1),tb HB,tk HK⟩
  ·rw [if_neg c22] at H
   have c22b0:decide (0≤Ao)=false:=decide_eq_false c22;clear c22
   by_cases c40:Ag.length < 17592186044416
   ·rw [if_pos c40] at H
    have LMc40:=Aside0.mk c40;clear c40
    obtain ⟨y109,hy109⟩:∃ y_:List Int,y_=(Ag ++ [0]):=⟨_,rfl⟩
    replace H:(some (A9,Ac,Ad,Af,y109,Ap,Ah,Ak,Al,Am,A7))=some (r1,r2,r3,r4,r5,r6,r7,r8,r9,r10,r11):=by first|(rw [hy109];with_reducible exact H)|(have H2_:=(Option.bind_some _ _).symm.trans H;rw [hy109];with_reducible exact H2_)|(have H2_:=(Option.bind_some _ _).symm.trans H;with_reducible exact H2_)|with_reducible exact H|(rw [hy109];exact H)|exact H
    have Ny109:=Aside0.mk hy109;clear hy109
    simp only [Option.some.injEq,Prod.mk.injEq] at H
    obtain ⟨rfl,rfl,rfl,rfl,rfl,rfl,rfl,rfl,rfl,rfl,rfl⟩:=H
    obtain ⟨B1,B2,eo41⟩:=Kd.R_slice A8.out
    subst eo41
    obtain ⟨Bj,Bk,eo42⟩:=Kd.R_slice A6.out
    subst eo42
    obtain ⟨Bb,Bc,eo43⟩:=Kd.R_slice A4.out
    subst eo43
    go_enter Try.func113,Try.ntmps113
    try go_wp2_with (first|((with_reducible refine gate_dst (N:=1) rfl ?_);refine bx (N:=1) (cs:=#[.slice B1 A9.length B2,.int .i64 Ac,.string Ad,.int .i64 Af,.slice Bj Ag.length Bk,.int .i64 Ap,.bool Ah,.int .i64 Ak,.int .i64 Al,.int .i64 Am,.slice Bb A7.length Bc]) (t:=36) ?_;intro Ae hg w44 hbox hb;replace A8:=rb A8 hb;replace A6:=rb A6 hb;replace A4:=rb A4 hb;have A0:=Aside0.mk (hbox);have Bl:=Aside0.mk ((by rw [hg];exact (by first|exact HK.out.1|exact (show Kept w _ (fun k_=>Ai k_∨Aj k_∨Aa k_) from tk HK).1):w.heap.size≤Ae));replace HK:=Aside0.mk (Kept.below (S:=(fun k_=>Ai k_∨Aj k_∨Aa k_)) (tk HK) hb);have At:=Aside0.mk ((by rw [hg];exact (below_size (tb HB)):w0.heap.size≤Ae));replace HB:=bs0 HB hb;clear hb hbox hg)|((with_reducible refine gate_dst (N:=2) rfl ?_);refine bx (N:=2) (cs:=#[.slice none 0 0,.int .i64 0,.string (⟨#[]⟩:ByteArray),.int .i64 0,.slice none 0 0,.int .i64 0,.bool false,.int .i64 0,.int .i64 0,.int .i64 0,.slice none 0 0]) (t:=36) ?_;intro A1 hg w45 hbox hb;replace A8:=rb A8 hb;replace A6:=rb A6 hb;replace A4:=rb A4 hb;have A5:=Aside0.mk (hbox);have Bm:=Aside0.mk ((by rw [hg];exact (by first|exact HK.out.1|exact (show Kept w _ (fun k_=>Ai k_∨Aj k_∨Aa k_) from tk HK).1):w.heap.size≤A1));replace HK:=Aside0.mk (Kept.below (S:=(fun k_=>Ai k_∨Aj k_∨Aa k_)) (tk HK) hb);have Ax:=Aside0.mk ((by rw [hg];exact (below_size (tb HB)):w0.heap.size≤A1));replace HB:=bs1 HB hb At;have Ay:=nl hg A0;have An:=ng hg A0;replace A0:=bb A0 hb;clear hb hbox hg;have hnb46:=Ay.out;have hnc46:=An.out;have hcz47__:=c11_ A0;have hfz47__:=f_ A0)|((with_reducible refine gate_callee (f:=79) rfl ?_);refine goesL_ (some 6) rfl rfl Try.func79 (by kernel_rfl) rfl #[.agg #[.slice B1 A9.length B2,.int .i64 Ac,.string Ad,.int .i64 Af,.slice Bj Ag.length Bk,.int .i64 Ap,.bool Ah,.int .i64 Ak,.int .i64 Al,.int .i64 Am,.slice Bb A7.length Bc]] rfl ml ?_;(with_reducible refine (spec_l09Left.calls k _ _ A9 Ac Ad Af _ _ Ag Ap Ah Ak Al Am _ _ A7 Av Aw _ ?side1 ?side2 ?side3 ?side4 ?side5 ?side6 A2.out).mono ?_);(case side1=>exact cw (Kd.R_reads' A8.out).2.2);(case side2=>exact (Kd.R_reads' A8.out).2.1);(case side3=>exact cw (Kd.R_reads' A6.out).2.2);(case side4=>exact (Kd.R_reads' A6.out).2.1);(case side5=>exact cw (Kd.R_reads' A4.out).2.2);(case side6=>exact (Kd.R_reads' A4.out).2.1);rintro e w48 ⟨rfl,hb⟩;refine ⟨_,rfl,?_⟩;replace A8:=rb A8 hb;replace A6:=rb A6 hb;replace A4:=rb A4 hb;replace A0:=bb A0 hb;replace A5:=bb A5 hb;replace HK:=Aside0.mk (Kept.below (S:=(fun k_=>Ai k_∨Aj k_∨Aa k_)) (tk HK) hb);replace HB:=bs2 HB hb At Ax;(try clear hb);(try clear hb2);(try clear hk);(try clear hi))|((with_reducible refine gate_dst (N:=3) rfl ?_);refine bx (N:=3) (cs:=#[.int .i64 0,.string (⟨#[]⟩:ByteArray)]) (t:=29) ?_;intro Au hg w49 hbox hb;replace A8:=rb A8 hb;replace A6:=rb A6 hb;replace A4:=rb A4 hb;have Ab:=Aside0.mk (hbox);have Bn:=Aside0.mk ((by rw [hg];exact (by first|exact HK.out.1|exact (show Kept w _ (fun k_=>Ai k_∨Aj k_∨Aa k_) from tk HK).1):w.heap.size≤Au));replace HK:=Aside0.mk (Kept.below (S:=(fun k_=>Ai k_∨Aj k_∨Aa k_)) (tk HK) hb);have Ba:=Aside0.mk ((by rw [hg];exact (below_size (tb HB)):w0.heap.size≤Au));replace HB:=bs2 HB hb At Ax;have Aq:=nl hg A0;have Az:=ng hg A0;replace A0:=bb A0 hb;have Ar:=nl hg A5;have B0:=ng hg A5;replace A5:=bb A5 hb;clear hb hbox hg;have hnb50:=Az.out;have hnc50:=Aq.out;have hnb51:=B0.out;have hnc51:=Ar.out;have hcz52__:=c2_ Ab;have hfz52__:=f_ Ab)|((with_reducible refine gate_callee (f:=120) rfl ?_);refine goesL_ (some 8) rfl rfl Try.func120 (by kernel_rfl) rfl #[.agg #[.int .i64 Av,.string Aw]] rfl ml ?_;(with_reducible refine (spec_Known.calls k Av Aw As _ A3.out).mono ?_);rintro e w53 ⟨rfl,hb⟩;refine ⟨_,rfl,?_⟩;replace A8:=rbf A8 Ab hb;replace A6:=rbf A6 Ab hb;replace A4:=rbf A4 Ab hb;replace A0:=Aside0.mk (blk_below (dq A0 Aq) hb);replace A5:=Aside0.mk (blk_below (dq A5 Ar) hb);replace Ab:=Aside0.mk (blk_below (g:=Au) (o := .cells #[.int .i64 Av,.string Aw] 29 (0,0)) (by (with_reducible repeat (first|refine blk_drewN ?_ _|refine blk_drew ?_|refine blk_alloc ?_ _));exact bp2 Ab.out) hb);replace HK:=Aside0.mk (Kept.below (S:=(fun k_=>Ai k_∨Aj k_∨Aa k_)) (tk HK) hb);replace HB:=bs3 HB hb At Ax Ba;(try clear hb);(try clear hb2);(try clear hk);(try clear hi)))
    replace A8:=Aside0.mk (Kd.R_drew A8.out);replace A6:=Aside0.mk (Kd.R_drew A6.out);replace A4:=Aside0.mk (Kd.R_drew A4.out);replace A0:=Aside0.mk (blk_drew A0.out);replace A5:=Aside0.mk (blk_drew A5.out);replace Ab:=Aside0.mk (blk_drew Ab.out);replace HK:=Aside0.mk (Kept.drew HK.out);replace HB:=Aside0.mk (below_drew1 HB.out)
    refine start_ (n:=6) (S:=fun w'=>w'.cell? ⟨Ae,0,none⟩=some (.slice B1 A9.length B2)∧w'.cell? ⟨Ae,1,none⟩=some (.int .i64 Ac)∧w'.cell? ⟨Ae,2,none⟩=some (.string Ad)∧w'.cell? ⟨Ae,3,none⟩=some (.int .i64 Af)∧w'.cell? ⟨Ae,4,none⟩=some (.slice Bj Ag.length Bk)∧w'.cell? ⟨Ae,5,none⟩=some (.int .i64 Ap)∧w'.cell? ⟨Ae,6,none⟩=some (.bool Ah)∧w'.cell? ⟨Ae,7,none⟩=some (.int .i64 Ak)∧w'.cell? ⟨Ae,8,none⟩=some (.int .i64 Al)∧w'.cell? ⟨Ae,9,none⟩=some (.int .i64 Am)∧w'.cell? ⟨Ae,10,none⟩=some (.slice Bb A7.length Bc)∧w'.cell? ⟨Au,0,none⟩=some (.int .i64 Av)∧w'.cell? ⟨Au,1,none⟩=some (.string Aw)) (ds:=[]) #[false,false,false,false,false,false] (by kernel_rfl) rfl rfl ⟨(blk_cell A0.out 0).trans rfl,(blk_cell A0.out 1).trans rfl,(blk_cell A0.out 2).trans rfl,(blk_cell A0.out 3).trans rfl,(blk_cell A0.out 4).trans rfl,(blk_cell A0.out 5).trans rfl,(blk_cell A0.out 6).trans rfl,(blk_cell A0.out 7).trans rfl,(blk_cell A0.out 8).trans rfl,(blk_cell A0.out 9).trans rfl,(blk_cell A0.out 10).trans rfl,(blk_cell Ab.out 0).trans rfl,(blk_cell Ab.out 1).trans rfl⟩ (fun hHeld=>?_)
    generalize w53.drew=w54 at A8 A6 A4 A0 A5 Ab HK HB hHeld ⊢
    refine pure_ (i:=0) (N:=some 18) (v:=?_) (a':=?_) #[true,false,false,false,false,false] rfl rfl (by kernel_rfl) (fun _ _ _ h=>h) (Or.inl ⟨by rfl,?_⟩) ?_ ?_
    rotate_left
    ·intro w'
     go_simp
     with_reducible rfl
    rotate_left
    ·simp only [Act.put,List.setIfInBounds_toArray,List.set_cons_zero,List.set_cons_succ,i64_w,i32_w]
     rfl
    refine take_ (i:=1) (N:=some 19) (v:=?_) (a':=?_) #[true,true,false,false,false,false] rfl rfl (by kernel_rfl) (fun _ _ _ h=>h) (Or.inl ⟨by rfl,?_⟩) hHeld ?_ ?_
    rotate_left
    ·rintro w' ⟨s0,s1,s2,s3,s4,s5,s6,s7,s8,s9,s10,s11,s12⟩
     go_simp
     with_reducible rfl
    rotate_left
    ·simp only [Act.put,List.setIfInBounds_toArray,List.set_cons_zero,List.set_cons_succ,i64_w,i32_w]
     rfl
    refine take_ (i:=2) (N:=some 20) (v:=?_) (a':=?_) #[true,true,true,false,false,false] rfl rfl (by kernel_rfl) (fun _ _ _ h=>h) (Or.inl ⟨by rfl,?_⟩) hHeld ?_ ?_
    rotate_left
    ·rintro w' ⟨s0,s1,s2,s3,s4,s5,s6,s7,s8,s9,s10,s11,s12⟩
     go_simp
     with_reducible rfl
    rotate_left
    ·simp only [Act.put,List.setIfInBounds_toArray,List.set_cons_zero,List.set_cons_succ,i64_w,i32_w]
     rfl
    refine one_ (i:=3) (N:=some 21) #[true,true,true,true,false,false] rfl rfl (by kernel_rfl) (by decide) (fun K hK=>?_)
    refine goes_ Try.func127 (by kernel_rfl) rfl #[.agg #[.int .i64 Av,.string Aw]] (by rfl) rfl rfl ml ?_
    with_reducible refine (spec_TableKey.calls k Av Aw B5 _ A20.out).mono ?_
    rintro e w55 ⟨rfl,hb⟩
    refine ⟨_,rfl,?_⟩
    have n0_:=rb A8 hb;have n1_:=rb A6 hb;have n2_:=rb A4 hb;have n3_:=bb A0 hb;have n4_:=bb A5 hb;have n5_:=bb Ab hb
    have n6_:=Aside0.mk (Kept.below (S:=(fun k_=>Ai k_∨Aj k_∨Aa k_)) (tk HK) hb)
    have n7_:=bs3 HB hb At Ax Ba;clear A8;clear A6;clear A4;clear A0;clear A5;clear Ab;clear HK;clear HB;have A8:=n0_;have A6:=n1_;have A4:=n2_;have A0:=n3_;have A5:=n4_;have Ab:=n5_;have HK:=n6_;have HB:=n7_;clear n0_ n1_ n2_ n3_ n4_ n5_ n6_ n7_
    (try clear hb)
    (try clear hb2)
    (try clear hk)
    (try clear hi)
    refine hK.out _ _ ⟨(blk_cell A0.out 0).trans rfl,(blk_cell A0.out 1).trans rfl,(blk_cell A0.out 2).trans rfl,(blk_cell A0.out 3).trans rfl,(blk_cell A0.out 4).trans rfl,(blk_cell A0.out 5).trans rfl,(blk_cell A0.out 6).trans rfl,(blk_cell A0.out 7).trans rfl,(blk_cell A0.out 8).trans rfl,(blk_cell A0.out 9).trans rfl,(blk_cell A0.out 10).trans rfl,(blk_cell Ab.out 0).trans rfl,(blk_cell Ab.out 1).trans rfl⟩ (fun hHeld=>?_)
    clear hK K
    refine norm_ (a':=?_) ?_ ?_
    rotate_left
    ·show Act.put _ (some 21) _=_
     simp only [Act.put,List.setIfInBounds_toArray,List.set_cons_zero,List.set_cons_succ,i64_w,i32_w]
     rfl
    refine one_ (i:=4) (N:=some 22) #[true,true,true,true,true,false] rfl rfl (by kernel_rfl) (by decide) (fun K hK=>?_)
    refine goes_ Try.func126 (by kernel_rfl) rfl #[.slice Bb A7.length Bc,.string B5] (by rfl) rfl rfl ml ?_
    with_reducible refine (spec_l09Find.calls k _ _ A7 B5 Ao _ ?side1 ?side2 A21.out).mono ?_
    (case side1=>exact cw (Kd.R_reads' A4.out).2.2)
    (case side2=>exact (Kd.R_reads' A4.out).2.1)
    rintro e w' ⟨rfl,⟨nd,rfl⟩⟩
    refine ⟨_,rfl,?_⟩
    refine hK.out _ _ ⟨(blk_cell A0.out 0).trans rfl,(blk_cell A0.out 1).trans rfl,(blk_cell A0.out 2).trans rfl,(blk_cell A0.out 3).trans rfl,(blk_cell A0.out 4).trans rfl,(blk_cell A0.out 5).trans rfl,(blk_cell A0.out 6).trans rfl,(blk_cell A0.out 7).trans rfl,(blk_cell A0.out 8).trans rfl,(blk_cell A0.out 9).trans rfl,(blk_cell A0.out 10).trans rfl,(blk_cell Ab.out 0).trans rfl,(blk_cell Ab.out 1).trans rfl⟩ (fun hHeld=>?_)
    clear hK K
    refine norm_ (a':=?_) ?_ ?_
    rotate_left
    ·show Act.put _ (some 22) _=_
     simp only [Act.put,List.setIfInBounds_toArray,List.set_cons_zero,List.set_cons_succ,i64_w,i32_w]
     rfl
    refine pure_ (i:=5) (N:=some 4) (v:=?_) (a':=?_) #[true,true,true,true,true,true] rfl rfl (by kernel_rfl) (fun _ _ _ h=>h) (Or.inl ⟨by rfl,?_⟩) ?_ ?_
    rotate_left
    ·intro w'
     go_simp
     with_reducible rfl
    rotate_left
    ·simp only [Act.put,List.setIfInBounds_toArray,List.set_cons_zero,List.set_cons_succ,i64_w,i32_w]
     rfl
    refine done_ (by kernel_rfl) ?_
    have hcz56__:=c11_ A0;have hfz56__:=f_ A0
    try go_wp2_with (first|((with_reducible refine gate_builtin (b := .append) (xs:=#[.tmp 33,.tmp 34]) rfl ?_);at_builtin;refine Kd.R_append (Kd.int .i64) (w0:=w0) w0.heap.size rfl (.tmp 33) (.tmp 34) 33 3 (.int .i64 0) 8 rfl Try.underlying33 info3 rfl (by decide) (by omega) (.slice Bj Ag.length Bk) Ag 0 [.int .i64 0] (fun k_=>((Ai k_∨Aj k_∨Aa k_)∨w.heap.size≤k_)) (fun _=>False) rfl rfl ?aP (fun _ hk=>hk.elim) ?aF ?aO ?aB ?aS ?aL ?_;(case aP=>exact rfl);(case aB=>exact (tb HB));(case aF=>exact (fun k_ hk=>(.inr (Nat.le_trans (by first|exact HK.out.1|exact (show Kept w _ (fun k_=>Ai k_∨Aj k_∨Aa k_) from tk HK).1) hk))));(case aO=>exact (ra A6));(case aS=>exact (below_size (tb HB)));(case aL=>have:=LMc40.out;omega);intro v110 w57 ho hb hg hat;rw [← Ny109.out] at ho;replace A8:=Aside0.mk (Kd.R_over' (ra A8) (Kd.R_typed (ra A6)) (by decide) hg);replace A4:=Aside0.mk (Kd.R_over' (ra A4) (Kd.R_typed (ra A6)) (by decide) hg);replace A0:=Aside0.mk (blk_grown (g:=Ae) (o := .cells #[.slice B1 A9.length B2,.int .i64 Ac,.string Ad,.int .i64 Af,.slice Bj Ag.length Bk,.int .i64 Ap,.bool Ah,.int .i64 Ak,.int .i64 Al,.int .i64 Am,.slice Bb A7.length Bc] 36 (0,0)) (dr A0) hg (Kd.R_ne A6.out A0.out (by decide)));replace A5:=Aside0.mk (blk_grown (g:=A1) (o := .cells #[.slice none 0 0,.int .i64 0,.string (⟨#[]⟩:ByteArray),.int .i64 0,.slice none 0 0,.int .i64 0,.bool false,.int .i64 0,.int .i64 0,.int .i64 0,.slice none 0 0] 36 (0,0)) (dr A5) hg (Kd.R_ne A6.out A5.out (by decide)));replace Ab:=Aside0.mk (blk_grown (g:=Au) (o := .cells #[.int .i64 Av,.string Aw] 29 (0,0)) (dr Ab) hg (Kd.R_ne A6.out Ab.out (by decide)));replace HB:=Aside0.mk (hb);replace HK:=Aside0.mk (Kept.of_grown (S:=(fun k_=>Ai k_∨Aj k_∨Aa k_)) hg (tk HK) (fun k_ e_=>(A6.out.1 k_ e_)));have Bo:=Aside0.mk (ho);clear A6;clear ho hb hg hat;obtain ⟨B8,B9,eo58⟩:=Kd.R_slice Bo.out;subst eo58;have hcz59__:=c11_ A0;have hfz59__:=f_ A0;have hcz60__:=c11_ A5;have hfz60__:=f_ A5))
    refine bodyPost_ret (results_cell_row rfl _ _ A1 36 #[.slice B1 A9.length B2,.int .i64 Ac,.string Ad,.int .i64 Af,.slice B8 y109.length B9,.int .i64 Ap,.bool Ah,.int .i64 Ak,.int .i64 Al,.int .i64 Am,.slice Bb A7.length Bc] (0,0) _ rfl (by (with_reducible repeat (first|refine blk_drewN ?_ _|refine blk_drew ?_|refine blk_alloc ?_ _));refine blk_put (cs:=#[.slice B1 A9.length B2,.int .i64 Ac,.string Ad,.int .i64 Af,.slice B8 y109.length B9,.int .i64 Ap,.bool Ah,.int .i64 Ak,.int .i64 Al,.int .i64 Am,.slice none 0 0]) ?_ 10 _ rfl;(with_reducible repeat (first|refine blk_drewN ?_ _|refine blk_drew ?_|refine blk_alloc ?_ _));refine blk_put (cs:=#[.slice B1 A9.length B2,.int .i64 Ac,.string Ad,.int .i64 Af,.slice B8 y109.length B9,.int .i64 Ap,.bool Ah,.int .i64 Ak,.int .i64 Al,.int .i64 0,.slice none 0 0]) ?_ 9 _ rfl;(with_reducible repeat (first|refine blk_drewN ?_ _|refine blk_drew ?_|refine blk_alloc ?_ _));refine blk_put (cs:=#[.slice B1 A9.length B2,.int .i64 Ac,.string Ad,.int .i64 Af,.slice B8 y109.length B9,.int .i64 Ap,.bool Ah,.int .i64 Ak,.int .i64 0,.int .i64 0,.slice none 0 0]) ?_ 8 _ rfl;(with_reducible repeat (first|refine blk_drewN ?_ _|refine blk_drew ?_|refine blk_alloc ?_ _));refine blk_put (cs:=#[.slice B1 A9.length B2,.int .i64 Ac,.string Ad,.int .i64 Af,.slice B8 y109.length B9,.int .i64 Ap,.bool Ah,.int .i64 0,.int .i64 0,.int .i64 0,.slice none 0 0]) ?_ 7 _ rfl;(with_reducible repeat (first|refine blk_drewN ?_ _|refine blk_drew ?_|refine blk_alloc ?_ _));refine blk_put (cs:=#[.slice B1 A9.length B2,.int .i64 Ac,.string Ad,.int .i64 Af,.slice B8 y109.length B9,.int .i64 Ap,.bool false,.int .i64 0,.int .i64 0,.int .i64 0,.slice none 0 0]) ?_ 6 _ rfl;(with_reducible repeat (first|refine blk_drewN ?_ _|refine blk_drew ?_|refine blk_alloc ?_ _));refine blk_put (cs:=#[.slice B1 A9.length B2,.int .i64 Ac,.string Ad,.int .i64 Af,.slice B8 y109.length B9,.int .i64 0,.bool false,.int .i64 0,.int .i64 0,.int .i64 0,.slice none 0 0]) ?_ 5 _ rfl;(with_reducible repeat (first|refine blk_drewN ?_ _|refine blk_drew ?_|refine blk_alloc ?_ _));refine blk_put (cs:=#[.slice B1 A9.length B2,.int .i64 Ac,.string Ad,.int .i64 Af,.slice none 0 0,.int .i64 0,.bool false,.int .i64 0,.int .i64 0,.int .i64 0,.slice none 0 0]) ?_ 4 _ rfl;(with_reducible repeat (first|refine blk_drewN ?_ _|refine blk_drew ?_|refine blk_alloc ?_ _));refine blk_put (cs:=#[.slice B1 A9.length B2,.int .i64 Ac,.string Ad,.int .i64 0,.slice none 0 0,.int .i64 0,.bool false,.int .i64 0,.int .i64 0,.int .i64 0,.slice none 0 0]) ?_ 3 _ rfl;(with_reducible repeat (first|refine blk_drewN ?_ _|refine blk_drew ?_|refine blk_alloc ?_ _));refine blk_put (cs:=#[.slice B1 A9.length B2,.int .i64 Ac,.string (⟨#[]⟩:ByteArray),.int .i64 0,.slice none 0 0,.int .i64 0,.bool false,.int .i64 0,.int .i64 0,.int .i64 0,.slice none 0 0]) ?_ 2 _ rfl;(with_reducible repeat (first|refine blk_drewN ?_ _|refine blk_drew ?_|refine blk_alloc ?_ _));refine blk_put (cs:=#[.slice B1 A9.length B2,.int .i64 0,.string (⟨#[]⟩:ByteArray),.int .i64 0,.slice none 0 0,.int .i64 0,.bool false,.int .i64 0,.int .i64 0,.int .i64 0,.slice none 0 0]) ?_ 1 _ rfl;(with_reducible repeat (first|refine blk_drewN ?_ _|refine blk_drew ?_|refine blk_alloc ?_ _));refine blk_put (cs:=#[.slice none 0 0,.int .i64 0,.string (⟨#[]⟩:ByteArray),.int .i64 0,.slice none 0 0,.int .i64 0,.bool false,.int .i64 0,.int .i64 0,.int .i64 0,.slice none 0 0]) ?_ 0 _ rfl;(with_reducible repeat (first|refine blk_drewN ?_ _|refine blk_drew ?_|refine blk_alloc ?_ _));refine blk_far ?_ An.out _;(with_reducible repeat (first|refine blk_drewN ?_ _|refine blk_drew ?_|refine blk_alloc ?_ _));exact A5.out) Try.underlying36 rfl (by kernel_rfl)) rfl ?_
    exact ⟨_,_,_,er,by (with_reducible repeat (first|apply Kd.R_alloc|apply Kd.R_drewN|apply Kd.R_drew));exact Kd.R_mono (Kd.R_far (p:=⟨A1,10,none⟩) (Kd.R_far (p:=⟨A1,9,none⟩) (Kd.R_far (p:=⟨A1,8,none⟩) (Kd.R_far (p:=⟨A1,7,none⟩) (Kd.R_far (p:=⟨A1,6,none⟩) (Kd.R_far (p:=⟨A1,5,none⟩) (Kd.R_far (p:=⟨A1,4,none⟩) (Kd.R_far (p:=⟨A1,3,none⟩) (Kd.R_far (p:=⟨A1,2,none⟩) (Kd.R_far (p:=⟨A1,1,none⟩) (Kd.R_far (p:=⟨A1,0,none⟩) (Kd.R_far (p:=⟨Ae,4,none⟩) (Kd.R_types (Kd.R_types A8.out A0.out (by decide)) A5.out (by decide)) (fun _ hk=>hk.1.2) (.slice B8 y109.length B9)) (fun _ hk=>hk.2) (.slice B1 A9.length B2)) (fun _ hk=>hk.2) (.int .i64 Ac)) (fun _ hk=>hk.2) (.string Ad)) (fun _ hk=>hk.2) (.int .i64 Af)) (fun _ hk=>hk.2) (.slice B8 y109.length B9)) (fun _ hk=>hk.2) (.int .i64 Ap)) (fun _ hk=>hk.2) (.bool Ah)) (fun _ hk=>hk.2) (.int .i64 Ak)) (fun _ hk=>hk.2) (.int .i64 Al)) (fun _ hk=>hk.2) (.int .i64 Am)) (fun _ hk=>hk.2) (.slice Bb A7.length Bc)) (fun _ hk=>hk.1.1),by (with_reducible repeat (first|apply Kd.R_alloc|apply Kd.R_drewN|apply Kd.R_drew));exact Kd.R_mono (Kd.R_far (p:=⟨A1,10,none⟩) (Kd.R_far (p:=⟨A1,9,none⟩) (Kd.R_far (p:=⟨A1,8,none⟩) (Kd.R_far (p:=⟨A1,7,none⟩) (Kd.R_far (p:=⟨A1,6,none⟩) (Kd.R_far (p:=⟨A1,5,none⟩) (Kd.R_far (p:=⟨A1,4,none⟩) (Kd.R_far (p:=⟨A1,3,none⟩) (Kd.R_far (p:=⟨A1,2,none⟩) (Kd.R_far (p:=⟨A1,1,none⟩) (Kd.R_far (p:=⟨A1,0,none⟩) (Kd.R_far (p:=⟨Ae,4,none⟩) (Kd.R_types (Kd.R_types Bo.out A0.out (by decide)) A5.out (by decide)) (fun _ hk=>hk.1.2) (.slice B8 y109.length B9)) (fun _ hk=>hk.2) (.slice B1 A9.length B2)) (fun _ hk=>hk.2) (.int .i64 Ac)) (fun _ hk=>hk.2) (.string Ad)) (fun _ hk=>hk.2) (.int .i64 Af)) (fun _ hk=>hk.2) (.slice B8 y109.length B9)) (fun _ hk=>hk.2) (.int .i64 Ap)) (fun _ hk=>hk.2) (.bool Ah)) (fun _ hk=>hk.2) (.int .i64 Ak)) (fun _ hk=>hk.2) (.int .i64 Al)) (fun _ hk=>hk.2) (.int .i64 Am)) (fun _ hk=>hk.2) (.slice Bb A7.length Bc)) (fun _ hk=>hk.1.1),by (with_reducible repeat (first|apply Kd.R_alloc|apply Kd.R_drewN|apply Kd.R_drew));exact Kd.R_mono (Kd.R_far (p:=⟨A1,10,none⟩) (Kd.R_far (p:=⟨A1,9,none⟩) (Kd.R_far (p:=⟨A1,8,none⟩) (Kd.R_far (p:=⟨A1,7,none⟩) (Kd.R_far (p:=⟨A1,6,none⟩) (Kd.R_far (p:=⟨A1,5,none⟩) (Kd.R_far (p:=⟨A1,4,none⟩) (Kd.R_far (p:=⟨A1,3,none⟩) (Kd.R_far (p:=⟨A1,2,none⟩) (Kd.R_far (p:=⟨A1,1,none⟩) (Kd.R_far (p:=⟨A1,0,none⟩) (Kd.R_far (p:=⟨Ae,4,none⟩) (Kd.R_types (Kd.R_types A4.out A0.out (by decide)) A5.out (by decide)) (fun _ hk=>hk.1.2) (.slice B8 y109.length B9)) (fun _ hk=>hk.2) (.slice B1 A9.length B2)) (fun _ hk=>hk.2) (.int .i64 Ac)) (fun _ hk=>hk.2) (.string Ad)) (fun _ hk=>hk.2) (.int .i64 Af)) (fun _ hk=>hk.2) (.slice B8 y109.length B9)) (fun _ hk=>hk.2) (.int .i64 Ap)) (fun _ hk=>hk.2) (.bool Ah)) (fun _ hk=>hk.2) (.int .i64 Ak)) (fun _ hk=>hk.2) (.int .i64 Al)) (fun _ hk=>hk.2) (.int .i64 Am)) (fun _ hk=>hk.2) (.slice Bb A7.length Bc)) (fun _ hk=>hk.1.1),tb HB,tk HK⟩
   ·rw [if_neg c40] at H
    exact absurd H (by simp)
end Go.Proofs.Ytlpfmhikahlcoaa.G
