-- texts of this session, merged by a program of it (wip/gen/pack.py)
import Derived.Test.YtlpfmhikahlcoaaKFnWin2
import Derived.Test.YtlpfmhikahlcoaaKFnWin5
import Derived.Test.YtlpfmhikahlcoaaKFnWin7
namespace Go.Proofs.Ytlpfmhikahlcoaa.G
open Go.Proofs.Ytlpfmhikahlcoaa.Sh Go.RowKit Go.Proofs.YtlpfmhikahlcoaaW.PrintWords Go.Proofs.YtlpfmhikahlcoaaW.PrintLast Go.Proofs.YtlpfmhikahlcoaaW.PrintMore
attribute [local go_sem] max2_int min2_int max_two min_two max_three min_three max_four min_four
set_option linter.unusedVariables false
set_option linter.unusedSimpArgs false
def spec_Choose.j0:Nat→List Bool→Bool→Int→ByteArray→Option (Int × Bool)
 | 0,_,_,_,_=>none
 | k + 1,x0,x16,x102000,x102001=>if x16=true then (some (0,false)) else ((spec_Half.f k x102000 x102001 0).bind fun bt103=>(if 1≤(x0.length:Int) then ((spec_l08Decide.f k (x0.drop 1) bt103.1 bt103.2.1).bind fun Aa=>((spec_l08Decide.f k x0 x102000 x102001).bind fun A9=>(if Aa=A9 then (some (0,true)) else (some (1,true))))) else (none)))
def spec_Choose.f (k:Nat) (l0:List Bool) (a1_0:Int) (a1_1:ByteArray):Option (Int × Bool):=(spec_l08Ok.f k l0 a1_0 a1_1).bind fun Af=>(if Af=true then (spec_Choose.j0 k l0 (a1_0 == 0) a1_0 a1_1) else (spec_Choose.j0 k l0 true a1_0 a1_1))
def spec_Choose.T4:Bool × List (List Nat × List Nat):=(true,[([],[]),([0],[0]),([],[]),([1,2],[1,2]),([],[]),([],[]),([4,5,3],[4,5]),([3,6],[3,6])])
def spec_Choose.B4:List Nat:=[0,1,0,7,0,0,63,127]
theorem spec_Choose.tab4:rtab .any (opsOf Try.f21 4)=spec_Choose.T4:=by kernel_rfl
theorem spec_Choose.bits4:waitsOk spec_Choose.T4.2 spec_Choose.B4=true:=by kernel_rfl
set_option maxHeartbeats 80000000 in
set_option maxRecDepth 100000 in
theorem spec_Choose.calls (k:Nat) (A0:Option Addr) (c0:Nat) (l0:List Bool) (a1_0:Int) (a1_1:ByteArray) (r1:Int) (r2:Bool) (w:World) (hr0:Kd.C Kd.bool w A0 l0.length l0) (hc0:l0.length≤c0) (h:spec_Choose.f k l0 a1_0 a1_1=some (r1,r2)) :
  Calls Try.prog 21 #[.slice A0 l0.length c0,.agg #[.int .i64 a1_0,.string a1_1]] w fun e w'=>e = .returned (.tuple #[.int .i64 r1,.bool r2])∧Below w.heap.size w w':=by
 have hu29:=Try.underlying29;have HR0:=Aside0.mk hr0;have HC0:=Aside0.mk hc0;clear hr0 hc0;have HB:=Aside0.mk (Below.refl w.heap.size w);have H:((spec_l08Ok.f k l0 a1_0 a1_1).bind fun Af=>(if Af=true then (spec_Choose.j0 k l0 (a1_0 == 0) a1_0 a1_1) else (spec_Choose.j0 k l0 true a1_0 a1_1)))=some (r1,r2):=h;clear h;have HC3:=Aside0.mk H;clear H
 go_enter Try.func21,Try.ntmps21
 go_upto_region 1 with (first|((with_reducible refine gate_dst (N:=3) rfl ?_);refine bx (N:=3) (cs:=#[.int .i64 a1_0,.string a1_1]) (t:=29) ?_;intro Ac hg w4 hbox hb;have A1:=Aside0.mk (hbox);have GW101:=bz0 hg HB;have A6:=bz0 hg HB;replace HB:=bs0 HB hb;clear hb hbox hg))
 (try simp only [Act.put,List.setIfInBounds_toArray,List.set_cons_zero,List.set_cons_succ])
 go_cut [16] (fun v16 wc=>∃ (kq:Nat) (Ae:Bool),v16 = .bool Ae∧Aside0 (spec_Choose.j0 kq l0 Ae a1_0 a1_1=some (r1,r2))∧Aside0 (kq≤k)∧Aside0 (wc.heap[Ac]? = some (.cells #[.int .i64 a1_0,.string a1_1] 29 (0,0)))∧Aside0 (Below w.heap.size w wc))
 case first =>
  have H:=HC3.out;clear HC3;replace H:=ob H;obtain ⟨Af,A50,H⟩:=H;replace H:(if Af=true then (spec_Choose.j0 k l0 (a1_0 == 0) a1_0 a1_1) else (spec_Choose.j0 k l0 true a1_0 a1_1))=some (r1,r2):=H;have A5:=Aside0.mk A50;clear A50
  by_cases c6:Af=true
  ·subst c6
   have H1:(spec_Choose.j0 k l0 (a1_0 == 0) a1_0 a1_1)=some (r1,r2):=by rw [if_pos rfl] at H;exact H
   clear H;have H:=H1;clear H1;have H':=Aside0.mk H;clear H;have hcz7__:=c2_ A1;have hfz7__:=f_ A1;go_wp2_with (first|((with_reducible refine gate_callee (f:=57) rfl ?_);refine goesL_ (some 10) rfl rfl Try.func57 (by kernel_rfl) rfl #[.slice A0 l0.length c0,.agg #[.int .i64 a1_0,.string a1_1]] rfl ml ?_;(with_reducible refine (spec_l08Ok.calls k _ _ l0 a1_0 a1_1 true _ ?side1 ?side2 A5.out).mono ?_);(case side1=>exact cw (Kd.C_below HR0.out HB.out));(case side2=>exact HC0.out);rintro e w8 ⟨rfl,hb⟩;refine ⟨_,rfl,?_⟩;replace A1:=bb A1 hb;replace HB:=bs1 HB hb A6;(try clear hb);(try clear hb2);(try clear hk);(try clear hi);have hcz9__:=c2_ A1;have hfz9__:=f_ A1));go_meet
   case rel=>exact ⟨_,((a1_0 == 0)),(by first|rfl|(simp;done)|(simp [*];done)),H',⟨by first|omega|exact Nat.le_refl _⟩,⟨dr A1⟩,⟨by exact tb HB⟩⟩
  ·replace c6:=Bool.eq_false_iff.mpr c6;subst c6
   have H1:(spec_Choose.j0 k l0 true a1_0 a1_1)=some (r1,r2):=by rw [if_neg (show ¬ (false=true) by decide)] at H;exact H
   clear H;have H:=H1;clear H1;have H':=Aside0.mk H;clear H;have hcz10__:=c2_ A1;have hfz10__:=f_ A1;go_wp2_with (first|((with_reducible refine gate_callee (f:=57) rfl ?_);refine goesL_ (some 10) rfl rfl Try.func57 (by kernel_rfl) rfl #[.slice A0 l0.length c0,.agg #[.int .i64 a1_0,.string a1_1]] rfl ml ?_;(with_reducible refine (spec_l08Ok.calls k _ _ l0 a1_0 a1_1 false _ ?side1 ?side2 A5.out).mono ?_);(case side1=>exact cw (Kd.C_below HR0.out HB.out));(case side2=>exact HC0.out);rintro e w11 ⟨rfl,hb⟩;refine ⟨_,rfl,?_⟩;replace A1:=bb A1 hb;replace HB:=bs1 HB hb A6;(try clear hb);(try clear hb2);(try clear hk);(try clear hi)));go_meet
   case rel=>exact ⟨_,(true),(by first|rfl|(simp;done)|(simp [*];done)),H',⟨by first|omega|exact Nat.le_refl _⟩,⟨dr A1⟩,⟨by exact tb HB⟩⟩
 case rest =>
  clear HC3;(try clear c2);(try clear p2);(try clear c5);(try clear c6);(try clear hcz10__);(try clear hcz7__);(try clear hcz9__);(try clear hfz10__);(try clear hfz7__);(try clear hfz9__);obtain ⟨kq,Ae,rfl,HA,HJ2,A1,HB⟩:=hcut
  cases kq with
    | zero=>exact absurd HA.out (by simp [spec_Choose.j0])
    | succ kj2 =>
   have H:=HA.out;clear HA;simp only [spec_Choose.j0] at H
   by_cases c12:Ae=true
   ·subst c12
    have H1:(some (0,false))=some (r1,r2):=by rw [if_pos rfl] at H;exact H
    clear H;have H:=H1;clear H1;simp only [Option.some.injEq,Prod.mk.injEq] at H;obtain ⟨rfl,rfl⟩:=H;go_wp2;go_ret2;exact ⟨er,tb HB⟩
   ·replace c12:=Bool.eq_false_iff.mpr c12;subst c12
    have H1:((spec_Half.f kj2 a1_0 a1_1 0).bind fun bt103=>(if 1≤(l0.length:Int) then ((spec_l08Decide.f kj2 (l0.drop 1) bt103.1 bt103.2.1).bind fun Aa=>((spec_l08Decide.f kj2 l0 a1_0 a1_1).bind fun A9=>(if Aa=A9 then (some (0,true)) else (some (1,true))))) else (none)))=some (r1,r2):=by rw [if_neg (show ¬ (false=true) by decide)] at H;exact H
    clear H;have H:=H1;clear H1;replace H:=ob H;obtain ⟨⟨A7,A8,Ag⟩,A130,H⟩:=H
    try dsimp only at H
    have A13:=Aside0.mk A130;clear A130
    by_cases c14:1≤(l0.length:Int)
    ·rw [if_pos c14] at H;have c14b0:=eq_true c14;have c14b1:decide (1≤(l0.length:Int))=true:=decide_eq_true c14;clear c14;replace H:=ob H;obtain ⟨Aa,A150,H⟩:=H;replace H:((spec_l08Decide.f kj2 l0 a1_0 a1_1).bind fun A9=>(if Aa=A9 then (some (0,true)) else (some (1,true))))=some (r1,r2):=H;have A15:=Aside0.mk A150;clear A150;replace H:=ob H;obtain ⟨A9,A160,H⟩:=H;replace H:(if Aa=A9 then (some (0,true)) else (some (1,true)))=some (r1,r2):=H;have A16:=Aside0.mk A160;clear A160
     by_cases c17:Aa=A9
     ·rw [if_pos c17] at H;have c17b0:(Aa == A9)=true:=beq_iff_eq.mpr c17;have c17b1:(Aa != A9)=false:=bne_eq_false_iff_eq.mpr c17;clear c17;simp only [Option.some.injEq,Prod.mk.injEq] at H;obtain ⟨rfl,rfl⟩:=H;have hcz18__:=c2_ A1;have hfz18__:=f_ A1
      try go_wp2_with (first|((with_reducible refine gate_callee (f:=61) rfl ?_);refine goesL_ (some 19) rfl rfl Try.func61 (by kernel_rfl) rfl #[.agg #[.int .i64 a1_0,.string a1_1],.int .i64 0] rfl ml ?_;(with_reducible refine (spec_Half.calls kj2 a1_0 a1_1 0 A7 A8 Ag _ A13.out).mono ?_);rintro e w19 ⟨rfl,hb⟩;refine ⟨_,rfl,?_⟩;replace A1:=bb A1 hb;replace HB:=bs1 HB hb A6;(try clear hb);(try clear hb2);(try clear hk);(try clear hi))|((with_reducible refine gate_dst (N:=6) rfl ?_);refine bx (N:=6) (cs:=#[.int .i64 0,.string (⟨#[]⟩:ByteArray)]) (t:=29) ?_;intro A3 hg w20 hbox hb;have A2:=Aside0.mk (hbox);have Ah:=bz1 hg HB A6;have Ad:=bz1 hg HB A6;replace HB:=bs1 HB hb A6;have A4:=nl hg A1;have Ab:=ng hg A1;replace A1:=bb A1 hb;clear hb hbox hg;have hnb21:=Ab.out;have hnc21:=A4.out;have hcz22__:=c2_ A2;have hfz22__:=f_ A2))
      have n0_:Aside0 (((w20.setCell ⟨A3,0,none⟩ (.int .i64 A7)).setCell ⟨A3,1,none⟩ (.string A8)).heap[Ac]? = some (.cells #[.int .i64 a1_0,.string a1_1] 29 (0,0))):=⟨by (with_reducible repeat (first|refine blk_drewN ?_ _|refine blk_drew ?_|refine blk_alloc ?_ _));refine blk_far ?_ A4.out _;(with_reducible repeat (first|refine blk_drewN ?_ _|refine blk_drew ?_|refine blk_alloc ?_ _));refine blk_far ?_ A4.out _;(with_reducible repeat (first|refine blk_drewN ?_ _|refine blk_drew ?_|refine blk_alloc ?_ _));exact A1.out⟩;have n1_:Aside0 (((w20.setCell ⟨A3,0,none⟩ (.int .i64 A7)).setCell ⟨A3,1,none⟩ (.string A8)).heap[A3]? = some (.cells #[.int .i64 A7,.string A8] 29 (0,0))):=⟨by (with_reducible repeat (first|refine blk_drewN ?_ _|refine blk_drew ?_|refine blk_alloc ?_ _));refine blk_put (cs:=#[.int .i64 A7,.string (⟨#[]⟩:ByteArray)]) ?_ 1 _ rfl;(with_reducible repeat (first|refine blk_drewN ?_ _|refine blk_drew ?_|refine blk_alloc ?_ _));refine blk_put (cs:=#[.int .i64 0,.string (⟨#[]⟩:ByteArray)]) ?_ 0 _ rfl;(with_reducible repeat (first|refine blk_drewN ?_ _|refine blk_drew ?_|refine blk_alloc ?_ _));exact A2.out⟩;have n2_:Aside0 (Below w.heap.size w ((w20.setCell ⟨A3,0,none⟩ (.int .i64 A7)).setCell ⟨A3,1,none⟩ (.string A8))):=⟨by exact tb HB⟩;(try clear A1);(try clear A2);(try clear HB);generalize ((w20.setCell ⟨A3,0,none⟩ (.int .i64 A7)).setCell ⟨A3,1,none⟩ (.string A8))=w23 at n0_ n1_ n2_ ⊢;have A1:=n0_;have A2:=n1_;have HB:=n2_;clear n0_ n1_ n2_;replace A1:=Aside0.mk (blk_drew A1.out);replace A2:=Aside0.mk (blk_drew A2.out);replace HB:=Aside0.mk (below_drew1 HB.out);obtain ⟨i025,hi025,_,hsz25,_⟩:=info_parts info4;obtain ⟨A25,hcut25,hA25,hC25⟩:=print_drop_of (P:=Try.prog) Value.bool false 22 4 .i64 Try.underlying22 hi025 hsz25 A0 c0 l0 1 (by omega) (od) HC0.out;have HR107:=Aside0.mk (Kd.C_of_reads (h1:=fun _=>rfl) (hA25 _ (Kd.reads_of_C HR0.out)));have HC107:=Aside0.mk hC25;clear hA25 hC25 hi025 hsz25;refine start_ (n:=8) (S:=fun w'=>w'.cell? ⟨A3,0,none⟩=some (.int .i64 A7)∧w'.cell? ⟨A3,1,none⟩=some (.string A8)∧w'.cell? ⟨Ac,0,none⟩=some (.int .i64 a1_0)∧w'.cell? ⟨Ac,1,none⟩=some (.string a1_1)) (ds:=[]) (tf 0 8) (by kernel_rfl) rfl rfl ⟨(blk_cell A2.out 0).trans rfl,(blk_cell A2.out 1).trans rfl,(blk_cell A1.out 0).trans rfl,(blk_cell A1.out 1).trans rfl⟩ (fun hHeld=>?_);refine with_tabW spec_Choose.tab4 spec_Choose.bits4 (fun HT_ HW_=>?_);generalize w23.drew=w24 at A1 A2 HB HR107 hHeld ⊢;refine pure_ (i:=0) (N:=some 22) (v:=?_) (a':=?_) (tf 1 7) rfl rfl (any_of HT_.out (by kernel_rfl)) (fun _ _ _ h=>h) (Or.inl ⟨by rfl,?_⟩) ?_ ?_;rotate_left
      ·intro w';go_simp;with_reducible rfl
      rotate_left
      ·simp only [Act.put,s1,s2,s3,i64_w,i32_w];rfl
      refine pure_ (i:=1) (N:=some 23) (v:=?_) (a':=?_) (tf 2 6) rfl rfl (any_of HT_.out (by kernel_rfl)) (fun _ _ _ h=>h) (Or.inl ⟨by rfl,?_⟩) ?_ ?_;rotate_left
      ·intro w';go_simp;with_reducible rfl
      rotate_left
      ·simp only [Act.put,s1,s2,s3,i64_w,i32_w];rfl
      refine pure_ (i:=4) (N:=some 26) (v:=?_) (a':=?_) #[true,true,false,false,true,false,false,false] rfl rfl (any_of HT_.out (by kernel_rfl)) (fun _ _ _ h=>h) (Or.inl ⟨by rfl,?_⟩) ?_ ?_;rotate_left
      ·intro w';go_simp;with_reducible rfl
      rotate_left
      ·simp only [Act.put,s1,s2,s3,i64_w,i32_w];rfl
      refine take_ (i:=2) (N:=some 24) (v:=?_) (a':=?_) #[true,true,true,false,true,false,false,false] rfl rfl (take_ofW HT_.out HW_.out (by kernel_rfl)) (fun _ _ _ h=>h) (Or.inl ⟨by rfl,?_⟩) hHeld ?_ ?_;rotate_left
      ·rintro w' ⟨s0,s1,s2,s3⟩;go_simp;with_reducible rfl
      rotate_left
      ·simp only [Act.put,s1,s2,s3,i64_w,i32_w];rfl
      refine take_ (i:=5) (N:=some 27) (v:=?_) (a':=?_) #[true,true,true,false,true,true,false,false] rfl rfl (take_ofW HT_.out HW_.out (by kernel_rfl)) (fun _ _ _ h=>h) (Or.inl ⟨by rfl,?_⟩) hHeld ?_ ?_;rotate_left
      ·rintro w' ⟨s0,s1,s2,s3⟩;go_simp;with_reducible rfl
      rotate_left
      ·simp only [Act.put,s1,s2,s3,i64_w,i32_w];rfl
      refine one_ (i:=3) (N:=some 25) (tf 6 2) rfl rfl (one_of HT_.out (by kernel_rfl)) (by decide) (fun K hK=>?_);refine goes_ Try.func58 (by kernel_rfl) rfl #[.slice A25 (l0.drop 1).length (c0 - 1),.agg #[.int .i64 A7,.string A8]] (by rfl) rfl rfl (by (try simp only [List.map_toArray,List.map_cons,List.map_nil]);first|done|(rw [show (l0.drop 1).length=(l0.length - 1) from List.length_drop] <;> rfl)|rfl|(simp only [List.length_drop,List.length_take];rfl)) ?_
      with_reducible refine (spec_l08Decide.calls kj2 _ _ (l0.drop 1) A7 A8 Aa _ ?side1 ?side2 A15.out).mono ?_
      (case side1=>exact cw (Kd.C_below HR107.out HB.out))
      (case side2=>exact HC107.out)
      rintro e w26 ⟨rfl,hb⟩;refine ⟨_,rfl,?_⟩;replace A1:=bb A1 hb;replace A2:=bb A2 hb;replace HB:=bs2 HB hb A6 Ad;(try clear hb);(try clear hb2);(try clear hk);(try clear hi);refine hK.out _ _ ⟨(blk_cell A2.out 0).trans rfl,(blk_cell A2.out 1).trans rfl,(blk_cell A1.out 0).trans rfl,(blk_cell A1.out 1).trans rfl⟩ (fun hHeld=>?_);clear hK K;refine norm_ (a':=?_) ?_ ?_;rotate_left
      ·show Act.put _ (some 25) _=_
       simp only [Act.put,s1,s2,s3,i64_w,i32_w];rfl
      refine one_ (i:=6) (N:=some 28) (tf 7 1) rfl rfl (one_of HT_.out (by kernel_rfl)) (by decide) (fun K hK=>?_);refine goes_ Try.func58 (by kernel_rfl) rfl #[.slice A0 l0.length c0,.agg #[.int .i64 a1_0,.string a1_1]] (by rfl) rfl rfl ml ?_
      with_reducible refine (spec_l08Decide.calls kj2 _ _ l0 a1_0 a1_1 A9 _ ?side1 ?side2 A16.out).mono ?_
      (case side1=>exact cw (Kd.C_below HR0.out HB.out))
      (case side2=>exact HC0.out)
      rintro e w27 ⟨rfl,hb⟩;refine ⟨_,rfl,?_⟩;replace A1:=bb A1 hb;replace A2:=bb A2 hb;replace HB:=bs2 HB hb A6 Ad;(try clear hb);(try clear hb2);(try clear hk);(try clear hi);refine hK.out _ _ ⟨(blk_cell A2.out 0).trans rfl,(blk_cell A2.out 1).trans rfl,(blk_cell A1.out 0).trans rfl,(blk_cell A1.out 1).trans rfl⟩ (fun hHeld=>?_);clear hK K;refine norm_ (a':=?_) ?_ ?_;rotate_left
      ·show Act.put _ (some 28) _=_
       simp only [Act.put,s1,s2,s3,i64_w,i32_w];rfl
      refine pure_ (i:=7) (N:=some 29) (v:=?_) (a':=?_) (tf 8 0) rfl rfl (any_of HT_.out (by kernel_rfl)) (fun _ _ _ h=>h) (Or.inl ⟨by rfl,?_⟩) ?_ ?_;rotate_left
      ·intro w';go_simp;with_reducible rfl
      rotate_left
      ·simp only [Act.put,s1,s2,s3,i64_w,i32_w];rfl
      refine done_ (done_of HT_.out (by kernel_rfl)) ?_
      try go_wp2
      go_ret2;exact ⟨er,tb HB⟩
     ·rw [if_neg c17] at H;have c17b0:(Aa == A9)=false:=beq_eq_false_iff_ne.mpr c17;have c17b1:(Aa != A9)=true:=bne_iff_ne.mpr c17;simp only [Option.some.injEq,Prod.mk.injEq] at H;obtain ⟨rfl,rfl⟩:=H;have hcz28__:=c2_ A1;have hfz28__:=f_ A1
      try go_wp2_with (first|((with_reducible refine gate_callee (f:=61) rfl ?_);refine goesL_ (some 19) rfl rfl Try.func61 (by kernel_rfl) rfl #[.agg #[.int .i64 a1_0,.string a1_1],.int .i64 0] rfl ml ?_;(with_reducible refine (spec_Half.calls kj2 a1_0 a1_1 0 A7 A8 Ag _ A13.out).mono ?_);rintro e w29 ⟨rfl,hb⟩;refine ⟨_,rfl,?_⟩;replace A1:=bb A1 hb;replace HB:=bs1 HB hb A6;(try clear hb);(try clear hb2);(try clear hk);(try clear hi))|((with_reducible refine gate_dst (N:=6) rfl ?_);refine bx (N:=6) (cs:=#[.int .i64 0,.string (⟨#[]⟩:ByteArray)]) (t:=29) ?_;intro A3 hg w30 hbox hb;have A2:=Aside0.mk (hbox);have Ah:=bz1 hg HB A6;have Ad:=bz1 hg HB A6;replace HB:=bs1 HB hb A6;have A4:=nl hg A1;have Ab:=ng hg A1;replace A1:=bb A1 hb;clear hb hbox hg;have hnb31:=Ab.out;have hnc31:=A4.out;have hcz32__:=c2_ A2;have hfz32__:=f_ A2))
      have n0_:Aside0 (((w30.setCell ⟨A3,0,none⟩ (.int .i64 A7)).setCell ⟨A3,1,none⟩ (.string A8)).heap[Ac]? = some (.cells #[.int .i64 a1_0,.string a1_1] 29 (0,0))):=⟨by (with_reducible repeat (first|refine blk_drewN ?_ _|refine blk_drew ?_|refine blk_alloc ?_ _));refine blk_far ?_ A4.out _;(with_reducible repeat (first|refine blk_drewN ?_ _|refine blk_drew ?_|refine blk_alloc ?_ _));refine blk_far ?_ A4.out _;(with_reducible repeat (first|refine blk_drewN ?_ _|refine blk_drew ?_|refine blk_alloc ?_ _));exact A1.out⟩;have n1_:Aside0 (((w30.setCell ⟨A3,0,none⟩ (.int .i64 A7)).setCell ⟨A3,1,none⟩ (.string A8)).heap[A3]? = some (.cells #[.int .i64 A7,.string A8] 29 (0,0))):=⟨by (with_reducible repeat (first|refine blk_drewN ?_ _|refine blk_drew ?_|refine blk_alloc ?_ _));refine blk_put (cs:=#[.int .i64 A7,.string (⟨#[]⟩:ByteArray)]) ?_ 1 _ rfl;(with_reducible repeat (first|refine blk_drewN ?_ _|refine blk_drew ?_|refine blk_alloc ?_ _));refine blk_put (cs:=#[.int .i64 0,.string (⟨#[]⟩:ByteArray)]) ?_ 0 _ rfl;(with_reducible repeat (first|refine blk_drewN ?_ _|refine blk_drew ?_|refine blk_alloc ?_ _));exact A2.out⟩;have n2_:Aside0 (Below w.heap.size w ((w30.setCell ⟨A3,0,none⟩ (.int .i64 A7)).setCell ⟨A3,1,none⟩ (.string A8))):=⟨by exact tb HB⟩;(try clear A1);(try clear A2);(try clear HB);generalize ((w30.setCell ⟨A3,0,none⟩ (.int .i64 A7)).setCell ⟨A3,1,none⟩ (.string A8))=w33 at n0_ n1_ n2_ ⊢;have A1:=n0_;have A2:=n1_;have HB:=n2_;clear n0_ n1_ n2_;replace A1:=Aside0.mk (blk_drew A1.out);replace A2:=Aside0.mk (blk_drew A2.out);replace HB:=Aside0.mk (below_drew1 HB.out);obtain ⟨i035,hi035,_,hsz35,_⟩:=info_parts info4;obtain ⟨A35,hcut35,hA35,hC35⟩:=print_drop_of (P:=Try.prog) Value.bool false 22 4 .i64 Try.underlying22 hi035 hsz35 A0 c0 l0 1 (by omega) (od) HC0.out;have HR107:=Aside0.mk (Kd.C_of_reads (h1:=fun _=>rfl) (hA35 _ (Kd.reads_of_C HR0.out)));have HC107:=Aside0.mk hC35;clear hA35 hC35 hi035 hsz35;refine start_ (n:=8) (S:=fun w'=>w'.cell? ⟨A3,0,none⟩=some (.int .i64 A7)∧w'.cell? ⟨A3,1,none⟩=some (.string A8)∧w'.cell? ⟨Ac,0,none⟩=some (.int .i64 a1_0)∧w'.cell? ⟨Ac,1,none⟩=some (.string a1_1)) (ds:=[]) (tf 0 8) (by kernel_rfl) rfl rfl ⟨(blk_cell A2.out 0).trans rfl,(blk_cell A2.out 1).trans rfl,(blk_cell A1.out 0).trans rfl,(blk_cell A1.out 1).trans rfl⟩ (fun hHeld=>?_);refine with_tabW spec_Choose.tab4 spec_Choose.bits4 (fun HT_ HW_=>?_);generalize w33.drew=w34 at A1 A2 HB HR107 hHeld ⊢;refine pure_ (i:=0) (N:=some 22) (v:=?_) (a':=?_) (tf 1 7) rfl rfl (any_of HT_.out (by kernel_rfl)) (fun _ _ _ h=>h) (Or.inl ⟨by rfl,?_⟩) ?_ ?_;rotate_left
      ·intro w';go_simp;with_reducible rfl
      rotate_left
      ·simp only [Act.put,s1,s2,s3,i64_w,i32_w];rfl
      refine pure_ (i:=1) (N:=some 23) (v:=?_) (a':=?_) (tf 2 6) rfl rfl (any_of HT_.out (by kernel_rfl)) (fun _ _ _ h=>h) (Or.inl ⟨by rfl,?_⟩) ?_ ?_;rotate_left
      ·intro w';go_simp;with_reducible rfl
      rotate_left
      ·simp only [Act.put,s1,s2,s3,i64_w,i32_w];rfl
      refine pure_ (i:=4) (N:=some 26) (v:=?_) (a':=?_) #[true,true,false,false,true,false,false,false] rfl rfl (any_of HT_.out (by kernel_rfl)) (fun _ _ _ h=>h) (Or.inl ⟨by rfl,?_⟩) ?_ ?_;rotate_left
      ·intro w';go_simp;with_reducible rfl
      rotate_left
      ·simp only [Act.put,s1,s2,s3,i64_w,i32_w];rfl
      refine take_ (i:=2) (N:=some 24) (v:=?_) (a':=?_) #[true,true,true,false,true,false,false,false] rfl rfl (take_ofW HT_.out HW_.out (by kernel_rfl)) (fun _ _ _ h=>h) (Or.inl ⟨by rfl,?_⟩) hHeld ?_ ?_;rotate_left
      ·rintro w' ⟨s0,s1,s2,s3⟩;go_simp;with_reducible rfl
      rotate_left
      ·simp only [Act.put,s1,s2,s3,i64_w,i32_w];rfl
      refine take_ (i:=5) (N:=some 27) (v:=?_) (a':=?_) #[true,true,true,false,true,true,false,false] rfl rfl (take_ofW HT_.out HW_.out (by kernel_rfl)) (fun _ _ _ h=>h) (Or.inl ⟨by rfl,?_⟩) hHeld ?_ ?_;rotate_left
      ·rintro w' ⟨s0,s1,s2,s3⟩;go_simp;with_reducible rfl
      rotate_left
      ·simp only [Act.put,s1,s2,s3,i64_w,i32_w];rfl
      refine one_ (i:=3) (N:=some 25) (tf 6 2) rfl rfl (one_of HT_.out (by kernel_rfl)) (by decide) (fun K hK=>?_);refine goes_ Try.func58 (by kernel_rfl) rfl #[.slice A35 (l0.drop 1).length (c0 - 1),.agg #[.int .i64 A7,.string A8]] (by rfl) rfl rfl (by (try simp only [List.map_toArray,List.map_cons,List.map_nil]);first|done|(rw [show (l0.drop 1).length=(l0.length - 1) from List.length_drop] <;> rfl)|rfl|(simp only [List.length_drop,List.length_take];rfl)) ?_
      with_reducible refine (spec_l08Decide.calls kj2 _ _ (l0.drop 1) A7 A8 Aa _ ?side1 ?side2 A15.out).mono ?_
      (case side1=>exact cw (Kd.C_below HR107.out HB.out))
      (case side2=>exact HC107.out)
      rintro e w36 ⟨rfl,hb⟩;refine ⟨_,rfl,?_⟩;replace A1:=bb A1 hb;replace A2:=bb A2 hb;replace HB:=bs2 HB hb A6 Ad;(try clear hb);(try clear hb2);(try clear hk);(try clear hi);refine hK.out _ _ ⟨(blk_cell A2.out 0).trans rfl,(blk_cell A2.out 1).trans rfl,(blk_cell A1.out 0).trans rfl,(blk_cell A1.out 1).trans rfl⟩ (fun hHeld=>?_);clear hK K;refine norm_ (a':=?_) ?_ ?_;rotate_left
      ·show Act.put _ (some 25) _=_
       simp only [Act.put,s1,s2,s3,i64_w,i32_w];rfl
      refine one_ (i:=6) (N:=some 28) (tf 7 1) rfl rfl (one_of HT_.out (by kernel_rfl)) (by decide) (fun K hK=>?_);refine goes_ Try.func58 (by kernel_rfl) rfl #[.slice A0 l0.length c0,.agg #[.int .i64 a1_0,.string a1_1]] (by rfl) rfl rfl ml ?_
      with_reducible refine (spec_l08Decide.calls kj2 _ _ l0 a1_0 a1_1 A9 _ ?side1 ?side2 A16.out).mono ?_
      (case side1=>exact cw (Kd.C_below HR0.out HB.out))
      (case side2=>exact HC0.out)
      rintro e w37 ⟨rfl,hb⟩;refine ⟨_,rfl,?_⟩;replace A1:=bb A1 hb;replace A2:=bb A2 hb;replace HB:=bs2 HB hb A6 Ad;(try clear hb);(try clear hb2);(try clear hk);(try clear hi);refine hK.out _ _ ⟨(blk_cell A2.out 0).trans rfl,(blk_cell A2.out 1).trans rfl,(blk_cell A1.out 0).trans rfl,(blk_cell A1.out 1).trans rfl⟩ (fun hHeld=>?_);clear hK K;refine norm_ (a':=?_) ?_ ?_;rotate_left
      ·show Act.put _ (some 28) _=_
       simp only [Act.put,s1,s2,s3,i64_w,i32_w];rfl
      refine pure_ (i:=7) (N:=some 29) (v:=?_) (a':=?_) (tf 8 0) rfl rfl (any_of HT_.out (by kernel_rfl)) (fun _ _ _ h=>h) (Or.inl ⟨by rfl,?_⟩) ?_ ?_;rotate_left
      ·intro w';go_simp;with_reducible rfl
      rotate_left
      ·simp only [Act.put,s1,s2,s3,i64_w,i32_w];rfl
      refine done_ (done_of HT_.out (by kernel_rfl)) ?_
      try go_wp2
      go_ret2;exact ⟨er,tb HB⟩
    ·rw [if_neg c14] at H;exact absurd H (by simp)
def spec_l10Win.f:Nat→List Bool→Int→ByteArray→Int→List Int→Option ((List (S108)))
 | 0,_,_,_,_,_=>none
 | k + 1,l0,a1_0,a1_1,a2,l3=>(spec_Known.f k a1_0 a1_1).bind fun t102=>(if t102 ≥ 0 then (some (([]:List (S108)))) else ((spec_Half.f k a1_0 a1_1 0).bind fun bt106=>((spec_Half.f k a1_0 a1_1 1).bind fun bt110=>(if 0 < (l0.length:Int) then (if ((rdOf false l0 0) == (a2 == 0))=true then ((spec_Choose.f k l0 a1_0 a1_1).bind fun bt115=>(if bt115.1=1 then ((some (([]:List Int):List Int)).bind fun y118=>(if y118.length + l3.length < 17592186044416 then ((some (([(⟨(y118 ++ l3),bt115.1⟩:S108)]:List (S108)):List (S108))).bind fun y125=>(if 1≤(l0.length:Int) then ((some (([]:List Int):List Int)).bind fun y129=>(if y129.length + l3.length < 17592186044416 then ((some (y129 ++ l3:List Int)).bind fun y132=>((some (([bt115.1]:List Int):List Int)).bind fun y135=>(if y132.length + y135.length < 17592186044416 then ((spec_l10Win.f k (l0.drop 1) bt110.1 bt110.2.1 a2 (y132 ++ y135)).bind fun A1=>(if y125.length + A1.length < 4398046511104 then (some (y125 ++ A1)) else (none))) else (none)))) else (none))) else (none))) else (none))) else ((some (([]:List Int):List Int)).bind fun y147=>(if y147.length + l3.length < 17592186044416 then ((some (([(⟨(y147 ++ l3),bt115.1⟩:S108)]:List (S108)):List (S108))).bind fun y154=>(if 1≤(l0.length:Int) then ((some (([]:List Int):List Int)).bind fun y158=>(if y158.length + l3.length < 17592186044416 then ((some (y158 ++ l3:List Int)).bind fun y161=>((some (([bt115.1]:List Int):List Int)).bind fun y164=>(if y161.length + y164.length < 17592186044416 then ((spec_l10Win.f k (l0.drop 1) bt106.1 bt106.2.1 a2 (y161 ++ y164)).bind fun A2=>(if y154.length + A2.length < 4398046511104 then (some (y154 ++ A2)) else (none))) else (none)))) else (none))) else (none))) else (none))))) else (if 1≤(l0.length:Int) then ((some (([]:List Int):List Int)).bind fun y177=>(if y177.length + l3.length < 17592186044416 then ((some (y177 ++ l3:List Int)).bind fun y180=>((some (([0]:List Int):List Int)).bind fun y183=>(if y180.length + y183.length < 17592186044416 then ((spec_l10Win.f k (l0.drop 1) bt106.1 bt106.2.1 a2 (y180 ++ y183)).bind fun A4=>((some (([]:List Int):List Int)).bind fun y193=>(if y193.length + l3.length < 17592186044416 then ((some (y193 ++ l3:List Int)).bind fun y196=>((some (([1]:List Int):List Int)).bind fun y199=>(if y196.length + y199.length < 17592186044416 then ((spec_l10Win.f k (l0.drop 1) bt110.1 bt110.2.1 a2 (y196 ++ y199)).bind fun A5=>(if A4.length + A5.length < 4398046511104 then (some (A4 ++ A5)) else (none))) else (none)))) else (none)))) else (none)))) else (none))) else (none))) else (none)))))
def spec_l10Win.T11:Bool × List (List Nat × List Nat):=(true,[([],[]),([0],[0]),([],[]),([2],[2]),([],[]),([],[]),([],[]),([],[]),([6,7],[6,7]),([],[]),([9],[9]),([8,10,8],[8,10]),([3,4,5,11,11],[3,4,5,11]),([1,12,12],[1,12]),([13,13,0,1,2,3,4,5,6,7,8,9,10,11,12,13],[13])])
def spec_l10Win.B11:List Nat:=[0,1,0,4,0,0,0,0,192,0,512,1984,4092,8191,16383]
theorem spec_l10Win.tab11:rtab .any (opsOf Try.f89 11)=spec_l10Win.T11:=by kernel_rfl
theorem spec_l10Win.bits11:waitsOk spec_l10Win.T11.2 spec_l10Win.B11=true:=by kernel_rfl
def spec_l10Win.T12:Bool × List (List Nat × List Nat):=(true,[([],[]),([0],[0]),([],[]),([],[]),([],[]),([],[]),([4,5],[4,5]),([],[]),([6,7,6],[6,7]),([1,2,3,8,8],[1,2,3,8]),([9,9,0,1,2,3,4,5,6,7,8,9],[9])])
def spec_l10Win.B12:List Nat:=[0,1,0,0,0,0,48,0,240,511,1023]
theorem spec_l10Win.tab12:rtab .any (opsOf Try.f89 12)=spec_l10Win.T12:=by kernel_rfl
theorem spec_l10Win.bits12:waitsOk spec_l10Win.T12.2 spec_l10Win.B12=true:=by kernel_rfl
def spec_l10Win.T13:Bool × List (List Nat × List Nat):=(true,[([],[]),([],[]),([1],[1]),([],[]),([],[]),([],[]),([],[]),([5,6],[5,6]),([],[]),([7,8,7],[7,8]),([2,3,4,9,9],[2,3,4,9]),([0,10,10],[0,10]),([11,11,0,1,2,3,4,5,6,7,8,9,10,11],[11])])
def spec_l10Win.B13:List Nat:=[0,0,2,0,0,0,0,96,0,480,1022,2047,4095]
theorem spec_l10Win.tab13:rtab .any (opsOf Try.f89 13)=spec_l10Win.T13:=by kernel_rfl
theorem spec_l10Win.bits13:waitsOk spec_l10Win.T13.2 spec_l10Win.B13=true:=by kernel_rfl
abbrev spec_l10Win.Ok (k:Nat):Prop:=∀ (A0:Option Addr) (c0:Nat) (l0:List Bool) (a1_0:Int) (a1_1:ByteArray) (a2:Int) (A3:Option Addr) (c3:Nat) (l3:List Int) (r:List (S108)) (w:World) (hr0:Kd.C Kd.bool w A0 l0.length l0) (hc0:l0.length≤c0) (hr3:Kd.C (Kd.int .i64) w A3 l3.length l3) (hc3:l3.length≤c3) (h:spec_l10Win.f k l0 a1_0 a1_1 a2 l3=some r),Calls Try.prog 89 #[.slice A0 l0.length c0,.agg #[.int .i64 a1_0,.string a1_1],.int .i64 a2,.slice A3 l3.length c3] w fun e w'=>∃ v0_:Value,e = .returned (v0_)∧Kd.N k108 108 w' w.heap.size (fun k_=>(w.heap.size≤k_)) v0_ r∧Below w.heap.size w w'
end Go.Proofs.Ytlpfmhikahlcoaa.G
