-- texts of this session, merged by a program of it (wip/gen/pack.py)
import Derived.Test.YtlpfmhikahlcoaaKFnExactWin2
import Derived.Test.YtlpfmhikahlcoaaKFnExactWin4
namespace Go.Proofs.Ytlpfmhikahlcoaa.G
open Go.Proofs.Ytlpfmhikahlcoaa.Sh Go.RowKit Go.Proofs.YtlpfmhikahlcoaaW.PrintWords Go.Proofs.YtlpfmhikahlcoaaW.PrintLast Go.Proofs.YtlpfmhikahlcoaaW.PrintMore
attribute [local go_sem] max2_int min2_int max_two min_two max_three min_three max_four min_four
set_option linter.unusedVariables false
set_option linter.unusedSimpArgs false
def spec_l08Decide.f:Nat→List Bool→Int→ByteArray→Option (Int)
 | 0,_,_,_=>none
 | k + 1,l0,a1_0,a1_1=>if a1_0=0 then (if 0 < (a1_1.size:Int) then (some (wrap64 ((wrap64 (bt a1_1 0)) - 48))) else (none)) else ((spec_Half.f k a1_0 a1_1 0).bind fun bt102=>((spec_Half.f k a1_0 a1_1 1).bind fun bt106=>(if 1≤(l0.length:Int) then ((spec_l08Decide.f k (l0.drop 1) bt102.1 bt102.2.1).bind fun Ac=>((spec_l08Decide.f k (l0.drop 1) bt106.1 bt106.2.1).bind fun Ab=>(if 0 < (l0.length:Int) then (if rdOf false l0 0=true then (some (Go.bits .and .i64 Ac Ab)) else (some (Go.bits .or .i64 Ac Ab))) else (none)))) else (none))))
def spec_l08Decide.T5:Bool × List (List Nat × List Nat):=(true,[([],[]),([0],[0]),([],[]),([1,2],[1,2]),([],[]),([4],[4]),([],[]),([5,6,3],[5,6]),([3,7,0,1,2,3],[3]),([7,8,0,1,2,3,4,5,6,7,8],[7])])
def spec_l08Decide.B5:List Nat:=[0,1,0,7,0,16,0,127,255,511]
theorem spec_l08Decide.tab5:rtab .any (opsOf Try.f58 5)=spec_l08Decide.T5:=by kernel_rfl
theorem spec_l08Decide.bits5:waitsOk spec_l08Decide.T5.2 spec_l08Decide.B5=true:=by kernel_rfl
set_option maxHeartbeats 80000000 in
set_option maxRecDepth 100000 in
theorem spec_l08Decide.calls (k:Nat):∀ (A0:Option Addr) (c0:Nat) (l0:List Bool) (a1_0:Int) (a1_1:ByteArray) (r:Int) (w:World) (hr0:Kd.C Kd.bool w A0 l0.length l0) (hc0:l0.length≤c0) (h:spec_l08Decide.f k l0 a1_0 a1_1=some r),
  Calls Try.prog 58 #[.slice A0 l0.length c0,.agg #[.int .i64 a1_0,.string a1_1]] w fun e w'=>e = .returned (.int .i64 r)∧Below w.heap.size w w':=by
 induction k using Nat.strongRecOn with
  | _ k ih =>
 intro A0 c0 l0 a1_0 a1_1 r w hr0 hc0 h
 cases k with
  | zero=>exact absurd h (by simp [spec_l08Decide.f])
  | succ k =>
 simp only [spec_l08Decide.f] at h;have hu29:=Try.underlying29;have HR0:=Aside0.mk hr0;have HC0:=Aside0.mk hc0;clear hr0 hc0;have HB:=Aside0.mk (Below.refl w.heap.size w);have H:(if a1_0=0 then (if 0 < (a1_1.size:Int) then (some (wrap64 ((wrap64 (bt a1_1 0)) - 48))) else (none)) else ((spec_Half.f k a1_0 a1_1 0).bind fun bt102=>((spec_Half.f k a1_0 a1_1 1).bind fun bt106=>(if 1≤(l0.length:Int) then ((spec_l08Decide.f k (l0.drop 1) bt102.1 bt102.2.1).bind fun Ac=>((spec_l08Decide.f k (l0.drop 1) bt106.1 bt106.2.1).bind fun Ab=>(if 0 < (l0.length:Int) then (if rdOf false l0 0=true then (some (Go.bits .and .i64 Ac Ab)) else (some (Go.bits .or .i64 Ac Ab))) else (none)))) else (none)))))=some r:=h;clear h
 by_cases c3:a1_0=0
 ·rw [if_pos c3] at H;have c3b0:(a1_0 == 0)=true:=beq_iff_eq.mpr c3;have c3b1:(a1_0 != 0)=false:=bne_eq_false_iff_eq.mpr c3;clear c3
  by_cases c4:0 < (a1_1.size:Int)
  ·rw [if_pos c4] at H;have c4b0:decide (0 < (a1_1.size:Int))=true:=decide_eq_true c4;have c4b1:decide (0 < a1_1.size)=true:=decide_eq_true (by omega);clear c4;obtain rfl:=os H
   go_enter Try.func58,Try.ntmps58
   go_wp2_with (first|((with_reducible refine gate_dst (N:=3) rfl ?_);refine bx (N:=3) (cs:=#[.int .i64 a1_0,.string a1_1]) (t:=29) ?_;intro An hg w6 hbox hb;have A1:=Aside0.mk (hbox);have Ao:=bz0 hg HB;have A5:=bz0 hg HB;replace HB:=bs0 HB hb;clear hb hbox hg;have hcz7__:=c2_ A1;have hfz7__:=f_ A1;have p5:0≤(0:Int):=(by omega);have q5:0 < a1_1.size:=(by have:(0:Int) < (a1_1.size:Int):=od;omega);have hx5:∀ h:0 < a1_1.size,((a1_1[0]'h).toNat:Int)=bt a1_1 0:=bt_at a1_1 0;clear p5;have qi5:(0 < (a1_1.size:Int))=True:=eq_true (od);replace q5:=eq_true q5));go_ret;exact ⟨er,tb HB⟩
  ·rw [if_neg c4] at H;exact absurd H (by simp)
 ·rw [if_neg c3] at H;have c3b0:(a1_0 == 0)=false:=beq_eq_false_iff_ne.mpr c3;have c3b1:(a1_0 != 0)=true:=bne_iff_ne.mpr c3;replace H:=ob H;obtain ⟨⟨Ag,Ah,Ap⟩,A80,H⟩:=H;replace H:((spec_Half.f k a1_0 a1_1 1).bind fun bt106=>(if 1≤(l0.length:Int) then ((spec_l08Decide.f k (l0.drop 1) Ag Ah).bind fun Ac=>((spec_l08Decide.f k (l0.drop 1) bt106.1 bt106.2.1).bind fun Ab=>(if 0 < (l0.length:Int) then (if rdOf false l0 0=true then (some (Go.bits .and .i64 Ac Ab)) else (some (Go.bits .or .i64 Ac Ab))) else (none)))) else (none)))=some r:=H;have A8:=Aside0.mk A80;clear A80;replace H:=ob H;obtain ⟨⟨Aa,Ad,Aq⟩,A90,H⟩:=H;replace H:(if 1≤(l0.length:Int) then ((spec_l08Decide.f k (l0.drop 1) Ag Ah).bind fun Ac=>((spec_l08Decide.f k (l0.drop 1) Aa Ad).bind fun Ab=>(if 0 < (l0.length:Int) then (if rdOf false l0 0=true then (some (Go.bits .and .i64 Ac Ab)) else (some (Go.bits .or .i64 Ac Ab))) else (none)))) else (none))=some r:=H;have A9:=Aside0.mk A90;clear A90
  by_cases c10:1≤(l0.length:Int)
  ·rw [if_pos c10] at H;have c10b0:=eq_true c10;have c10b1:decide (1≤(l0.length:Int))=true:=decide_eq_true c10;clear c10;replace H:=ob H;obtain ⟨Ac,A110,H⟩:=H;replace H:((spec_l08Decide.f k (l0.drop 1) Aa Ad).bind fun Ab=>(if 0 < (l0.length:Int) then (if rdOf false l0 0=true then (some (Go.bits .and .i64 Ac Ab)) else (some (Go.bits .or .i64 Ac Ab))) else (none)))=some r:=H;have A11:=Aside0.mk A110;clear A110;have c12b0:=eq_true (od:1≤(l0.length:Int));replace H:=ob H;obtain ⟨Ab,A130,H⟩:=H;replace H:(if 0 < (l0.length:Int) then (if rdOf false l0 0=true then (some (Go.bits .and .i64 Ac Ab)) else (some (Go.bits .or .i64 Ac Ab))) else (none))=some r:=H;have A13:=Aside0.mk A130;clear A130
   by_cases c14:0 < (l0.length:Int)
   ·rw [if_pos c14] at H;have c14b0:decide (0 < (l0.length:Int))=true:=decide_eq_true c14;have c14b1:decide (0 < l0.length)=true:=decide_eq_true (by omega);clear c14;obtain ⟨bq15,hbq15⟩:∃ b_:Bool,b_=(rdOf false l0 0):=⟨_,rfl⟩
    replace H:(if bq15=true then (some (Go.bits .and .i64 Ac Ab)) else (some (Go.bits .or .i64 Ac Ab)))=some r:=by rw [← hbq15] at H;exact H
    have Nbq15:=Aside0.mk hbq15;clear hbq15
    by_cases c16:bq15=true
    ·subst c16
     have H1:(some (Go.bits .and .i64 Ac Ab))=some r:=by rw [if_pos rfl] at H;exact H
     clear H;have H:=H1;clear H1;obtain rfl:=os H
     go_enter Try.func58,Try.ntmps58
     try go_wp2_with (first|((with_reducible refine gate_dst (N:=3) rfl ?_);refine bx (N:=3) (cs:=#[.int .i64 a1_0,.string a1_1]) (t:=29) ?_;intro An hg w17 hbox hb;have A1:=Aside0.mk (hbox);have Ao:=bz0 hg HB;have A5:=bz0 hg HB;replace HB:=bs0 HB hb;clear hb hbox hg;have hcz18__:=c2_ A1;have hfz18__:=f_ A1)|((with_reducible refine gate_callee (f:=61) rfl ?_);refine goesL_ (some 21) rfl rfl Try.func61 (by kernel_rfl) rfl #[.agg #[.int .i64 a1_0,.string a1_1],.int .i64 0] rfl ml ?_;(with_reducible refine (spec_Half.calls k a1_0 a1_1 0 Ag Ah Ap _ A8.out).mono ?_);rintro e w19 ⟨rfl,hb⟩;refine ⟨_,rfl,?_⟩;replace A1:=bb A1 hb;replace HB:=bs1 HB hb A5;(try clear hb);(try clear hb2);(try clear hk);(try clear hi))|((with_reducible refine gate_dst (N:=5) rfl ?_);refine bx (N:=5) (cs:=#[.int .i64 0,.string (⟨#[]⟩:ByteArray)]) (t:=29) ?_;intro Ai hg w20 hbox hb;have A2:=Aside0.mk (hbox);have Ar:=bz1 hg HB A5;have Ae:=bz1 hg HB A5;replace HB:=bs1 HB hb A5;have Af:=nl hg A1;have Aj:=ng hg A1;replace A1:=bb A1 hb;clear hb hbox hg;have hnb21:=Aj.out;have hnc21:=Af.out;have hcz22__:=c2_ A2;have hfz22__:=f_ A2;have hcz23__:=c2_ A1;have hfz23__:=f_ A1)|((with_reducible refine gate_callee (f:=61) rfl ?_);refine goesL_ (some 26) rfl rfl Try.func61 (by kernel_rfl) rfl #[.agg #[.int .i64 a1_0,.string a1_1],.int .i64 1] rfl ml ?_;(with_reducible refine (spec_Half.calls k a1_0 a1_1 1 Aa Ad Aq _ A9.out).mono ?_);rintro e w24 ⟨rfl,hb⟩;refine ⟨_,rfl,?_⟩;replace A1:=Aside0.mk (blk_below (dq A1 Af) hb);replace A2:=Aside0.mk (blk_below (g:=Ai) (o := .cells #[.int .i64 Ag,.string Ah] 29 (0,0)) (by (with_reducible repeat (first|refine blk_drewN ?_ _|refine blk_drew ?_|refine blk_alloc ?_ _));exact bp2 A2.out) hb);replace HB:=bs2 HB hb A5 Ae;(try clear hb);(try clear hb2);(try clear hk);(try clear hi))|((with_reducible refine gate_dst (N:=7) rfl ?_);refine bx (N:=7) (cs:=#[.int .i64 0,.string (⟨#[]⟩:ByteArray)]) (t:=29) ?_;intro A4 hg w25 hbox hb;have A3:=Aside0.mk (hbox);have As:=bz2 hg HB A5 Ae;have Am:=bz2 hg HB A5 Ae;replace HB:=bs2 HB hb A5 Ae;have A6:=nl hg A1;have Ak:=ng hg A1;replace A1:=bb A1 hb;have A7:=nl hg A2;have Al:=ng hg A2;replace A2:=bb A2 hb;clear hb hbox hg;have hnb26:=Ak.out;have hnc26:=A6.out;have hnb27:=Al.out;have hnc27:=A7.out;have hcz28__:=c2_ A3;have hfz28__:=f_ A3))
     have n0_:Aside0 (((w25.setCell ⟨A4,0,none⟩ (.int .i64 Aa)).setCell ⟨A4,1,none⟩ (.string Ad)).heap[An]? = some (.cells #[.int .i64 a1_0,.string a1_1] 29 (0,0))):=⟨by (with_reducible repeat (first|refine blk_drewN ?_ _|refine blk_drew ?_|refine blk_alloc ?_ _));refine blk_far ?_ A6.out _;(with_reducible repeat (first|refine blk_drewN ?_ _|refine blk_drew ?_|refine blk_alloc ?_ _));refine blk_far ?_ A6.out _;(with_reducible repeat (first|refine blk_drewN ?_ _|refine blk_drew ?_|refine blk_alloc ?_ _));exact A1.out⟩;have n1_:Aside0 (((w25.setCell ⟨A4,0,none⟩ (.int .i64 Aa)).setCell ⟨A4,1,none⟩ (.string Ad)).heap[Ai]? = some (.cells #[.int .i64 Ag,.string Ah] 29 (0,0))):=⟨by (with_reducible repeat (first|refine blk_drewN ?_ _|refine blk_drew ?_|refine blk_alloc ?_ _));refine blk_far ?_ A7.out _;(with_reducible repeat (first|refine blk_drewN ?_ _|refine blk_drew ?_|refine blk_alloc ?_ _));refine blk_far ?_ A7.out _;(with_reducible repeat (first|refine blk_drewN ?_ _|refine blk_drew ?_|refine blk_alloc ?_ _));exact A2.out⟩;have n2_:Aside0 (((w25.setCell ⟨A4,0,none⟩ (.int .i64 Aa)).setCell ⟨A4,1,none⟩ (.string Ad)).heap[A4]? = some (.cells #[.int .i64 Aa,.string Ad] 29 (0,0))):=⟨by (with_reducible repeat (first|refine blk_drewN ?_ _|refine blk_drew ?_|refine blk_alloc ?_ _));refine blk_put (cs:=#[.int .i64 Aa,.string (⟨#[]⟩:ByteArray)]) ?_ 1 _ rfl;(with_reducible repeat (first|refine blk_drewN ?_ _|refine blk_drew ?_|refine blk_alloc ?_ _));refine blk_put (cs:=#[.int .i64 0,.string (⟨#[]⟩:ByteArray)]) ?_ 0 _ rfl;(with_reducible repeat (first|refine blk_drewN ?_ _|refine blk_drew ?_|refine blk_alloc ?_ _));exact A3.out⟩;have n3_:Aside0 (Below w.heap.size w ((w25.setCell ⟨A4,0,none⟩ (.int .i64 Aa)).setCell ⟨A4,1,none⟩ (.string Ad))):=⟨by exact tb HB⟩;(try clear A1);(try clear A2);(try clear A3);(try clear HB);generalize ((w25.setCell ⟨A4,0,none⟩ (.int .i64 Aa)).setCell ⟨A4,1,none⟩ (.string Ad))=w29 at n0_ n1_ n2_ n3_ ⊢;have A1:=n0_;have A2:=n1_;have A3:=n2_;have HB:=n3_;clear n0_ n1_ n2_ n3_;replace A1:=Aside0.mk (blk_drew A1.out);replace A2:=Aside0.mk (blk_drew A2.out);replace A3:=Aside0.mk (blk_drew A3.out);replace HB:=Aside0.mk (below_drew1 HB.out);obtain ⟨i031,hi031,_,hsz31,_⟩:=info_parts info4;obtain ⟨A31,hcut31,hA31,hC31⟩:=print_drop_of (P:=Try.prog) Value.bool false 22 4 .i64 Try.underlying22 hi031 hsz31 A0 c0 l0 1 (by omega) (od) HC0.out;have HR110:=Aside0.mk (Kd.C_of_reads (h1:=fun _=>rfl) (hA31 _ (Kd.reads_of_C HR0.out)));have HC110:=Aside0.mk hC31;clear hA31 hC31 hi031 hsz31;obtain ⟨i032,hi032,_,hsz32,_⟩:=info_parts info4;obtain ⟨A32,hcut32,hA32,hC32⟩:=print_drop_of (P:=Try.prog) Value.bool false 22 4 .i64 Try.underlying22 hi032 hsz32 A0 c0 l0 1 (by omega) (od) HC0.out
     obtain rfl:A31=A32:=by have e_:=(hcut31 w).symm.trans (hcut32 w);injection e_ with e_;injection e_
     have HR112:=Aside0.mk (Kd.C_of_reads (h1:=fun _=>rfl) (hA32 _ (Kd.reads_of_C HR0.out)));have HC112:=Aside0.mk hC32;clear hA32 hC32 hi032 hsz32;refine start_ (n:=10) (S:=fun w'=>w'.cell? ⟨Ai,0,none⟩=some (.int .i64 Ag)∧w'.cell? ⟨Ai,1,none⟩=some (.string Ah)∧w'.cell? ⟨A4,0,none⟩=some (.int .i64 Aa)∧w'.cell? ⟨A4,1,none⟩=some (.string Ad)) (ds:=[]) (tf 0 10) (by kernel_rfl) rfl rfl ⟨(blk_cell A2.out 0).trans rfl,(blk_cell A2.out 1).trans rfl,(blk_cell A3.out 0).trans rfl,(blk_cell A3.out 1).trans rfl⟩ (fun hHeld=>?_);refine with_tabW spec_l08Decide.tab5 spec_l08Decide.bits5 (fun HT_ HW_=>?_);generalize w29.drew=w30 at A1 A2 A3 HB HR110 HR112 hHeld ⊢;refine pure_ (i:=0) (N:=some 29) (v:=?_) (a':=?_) (tf 1 9) rfl rfl (any_of HT_.out (by kernel_rfl)) (fun _ _ _ h=>h) (Or.inl ⟨by rfl,?_⟩) ?_ ?_;rotate_left
     ·intro w';go_simp;with_reducible rfl
     rotate_left
     ·simp only [Act.put,s1,s2,s3,i64_w,i32_w];rfl
     refine pure_ (i:=1) (N:=some 30) (v:=?_) (a':=?_) (tf 2 8) rfl rfl (any_of HT_.out (by kernel_rfl)) (fun _ _ _ h=>h) (Or.inl ⟨by rfl,?_⟩) ?_ ?_;rotate_left
     ·intro w';go_simp;with_reducible rfl
     rotate_left
     ·simp only [Act.put,s1,s2,s3,i64_w,i32_w];rfl
     refine pure_ (i:=4) (N:=some 33) (v:=?_) (a':=?_) #[true,true,false,false,true,false,false,false,false,false] rfl rfl (any_of HT_.out (by kernel_rfl)) (fun _ _ _ h=>h) (Or.inl ⟨by rfl,?_⟩) ?_ ?_;rotate_left
     ·intro w';go_simp;with_reducible rfl
     rotate_left
     ·simp only [Act.put,s1,s2,s3,i64_w,i32_w];rfl
     refine pure_ (i:=5) (N:=some 34) (v:=?_) (a':=?_) #[true,true,false,false,true,true,false,false,false,false] rfl rfl (any_of HT_.out (by kernel_rfl)) (fun _ _ _ h=>h) (Or.inl ⟨by rfl,?_⟩) ?_ ?_;rotate_left
     ·intro w';go_simp;with_reducible rfl
     rotate_left
     ·simp only [Act.put,s1,s2,s3,i64_w,i32_w];rfl
     refine take_ (i:=2) (N:=some 31) (v:=?_) (a':=?_) #[true,true,true,false,true,true,false,false,false,false] rfl rfl (take_ofW HT_.out HW_.out (by kernel_rfl)) (fun _ _ _ h=>h) (Or.inl ⟨by rfl,?_⟩) hHeld ?_ ?_;rotate_left
     ·rintro w' ⟨s0,s1,s2,s3⟩;go_simp;with_reducible rfl
     rotate_left
     ·simp only [Act.put,s1,s2,s3,i64_w,i32_w];rfl
     refine take_ (i:=6) (N:=some 35) (v:=?_) (a':=?_) #[true,true,true,false,true,true,true,false,false,false] rfl rfl (take_ofW HT_.out HW_.out (by kernel_rfl)) (fun _ _ _ h=>h) (Or.inl ⟨by rfl,?_⟩) hHeld ?_ ?_;rotate_left
     ·rintro w' ⟨s0,s1,s2,s3⟩;go_simp;with_reducible rfl
     rotate_left
     ·simp only [Act.put,s1,s2,s3,i64_w,i32_w];rfl
     refine one_ (i:=3) (N:=some 32) (tf 7 3) rfl rfl (one_of HT_.out (by kernel_rfl)) (by decide) (fun K hK=>?_);refine goes_ Try.func58 (by kernel_rfl) rfl #[.slice A31 (l0.drop 1).length (c0 - 1),.agg #[.int .i64 Ag,.string Ah]] (by rfl) rfl rfl (by (try simp only [List.map_toArray,List.map_cons,List.map_nil]);first|done|(rw [show (l0.drop 1).length=(l0.length - 1) from List.length_drop] <;> rfl)|rfl|(simp only [List.length_drop,List.length_take];rfl)) ?_
     with_reducible refine (ih k (by omega) _ _ (l0.drop 1) Ag Ah Ac _ ?side1 ?side2 A11.out).mono ?_
     (case side1=>exact cw (Kd.C_below HR110.out HB.out))
     (case side2=>exact HC110.out)
     rintro e w33 ⟨rfl,hb⟩;refine ⟨_,rfl,?_⟩;replace A1:=bb A1 hb;replace A2:=bb A2 hb;replace A3:=bb A3 hb;replace HB:=bs3 HB hb A5 Ae Am;(try clear hb);(try clear hb2);(try clear hk);(try clear hi);refine hK.out _ _ ⟨(blk_cell A2.out 0).trans rfl,(blk_cell A2.out 1).trans rfl,(blk_cell A3.out 0).trans rfl,(blk_cell A3.out 1).trans rfl⟩ (fun hHeld=>?_);clear hK K;refine norm_ (a':=?_) ?_ ?_;rotate_left
     ·show Act.put _ (some 32) _=_
      simp only [Act.put,s1,s2,s3,i64_w,i32_w];rfl
     refine one_ (i:=7) (N:=some 36) (tf 8 2) rfl rfl (one_of HT_.out (by kernel_rfl)) (by decide) (fun K hK=>?_);refine goes_ Try.func58 (by kernel_rfl) rfl #[.slice A31 (l0.drop 1).length (c0 - 1),.agg #[.int .i64 Aa,.string Ad]] (by rfl) rfl rfl (by (try simp only [List.map_toArray,List.map_cons,List.map_nil]);first|done|(rw [show (l0.drop 1).length=(l0.length - 1) from List.length_drop] <;> rfl)|rfl|(simp only [List.length_drop,List.length_take];rfl)) ?_
     with_reducible refine (ih k (by omega) _ _ (l0.drop 1) Aa Ad Ab _ ?side1 ?side2 A13.out).mono ?_
     (case side1=>exact cw (Kd.C_below HR112.out HB.out))
     (case side2=>exact HC112.out)
     rintro e w34 ⟨rfl,hb⟩;refine ⟨_,rfl,?_⟩;replace A1:=bb A1 hb;replace A2:=bb A2 hb;replace A3:=bb A3 hb;replace HB:=bs3 HB hb A5 Ae Am;(try clear hb);(try clear hb2);(try clear hk);(try clear hi);refine hK.out _ _ ⟨(blk_cell A2.out 0).trans rfl,(blk_cell A2.out 1).trans rfl,(blk_cell A3.out 0).trans rfl,(blk_cell A3.out 1).trans rfl⟩ (fun hHeld=>?_);clear hK K;refine norm_ (a':=?_) ?_ ?_;rotate_left
     ·show Act.put _ (some 36) _=_
      simp only [Act.put,s1,s2,s3,i64_w,i32_w];rfl
     refine pure_ (i:=8) (N:=some 9) (v:=?_) (a':=?_) (tf 9 1) rfl rfl (any_of HT_.out (by kernel_rfl)) (fun _ _ _ h=>h) (Or.inl ⟨by rfl,?_⟩) ?_ ?_;rotate_left
     ·intro w';go_simp;with_reducible rfl
     rotate_left
     ·simp only [Act.put,s1,s2,s3,i64_w,i32_w];rfl
     refine pure_ (i:=9) (N:=some 10) (v:=?_) (a':=?_) (tf 10 0) rfl rfl (any_of HT_.out (by kernel_rfl)) (fun _ _ _ h=>h) (Or.inl ⟨by rfl,?_⟩) ?_ ?_;rotate_left
     ·intro w';go_simp;with_reducible rfl
     rotate_left
     ·simp only [Act.put,s1,s2,s3,i64_w,i32_w];rfl
     refine done_ (done_of HT_.out (by kernel_rfl)) ?_;have p114:0≤(0:Int):=(by omega);have q114:0 < (l0.length:Int):=od;obtain ⟨ad114,e114,hx114_0⟩:=Kd.at_bool HR0.out 0 p114 q114
     (try rw [← Nbq15.out] at hx114_0)
     cases e114;have qi114:(0 < l0.length)=True:=eq_true (by omega)
     (try rw [show ((0:Int)).toNat=0 from rfl] at hx114_0)
     (try rw [Addr.add_zero'] at hx114_0)
     replace hx114_0:=ct HB hx114_0;replace p114:=eq_true p114;replace q114:=eq_true q114
     try go_wp2
     go_ret;exact ⟨by first|exact er|(simp [errW_none,errW_some,show ¬ l0=[] from by intro h_;rw [h_] at c14b0;simp at c14b0];done)|(simp [*,show ¬ l0=[] from by intro h_;rw [h_] at c14b0;simp at c14b0];done)|(simp [errW_none,errW_some,show ¬ l0=[] from by intro h_;rw [h_] at c14b0;simp at c14b0] <;> rfl),tb HB⟩
    ·replace c16:=Bool.eq_false_iff.mpr c16;subst c16
     have H1:(some (Go.bits .or .i64 Ac Ab))=some r:=by rw [if_neg (show ¬ (false=true) by decide)] at H;exact H
     clear H;have H:=H1;clear H1;obtain rfl:=os H
     go_enter Try.func58,Try.ntmps58
     try go_wp2_with (first|((with_reducible refine gate_dst (N:=3) rfl ?_);refine bx (N:=3) (cs:=#[.int .i64 a1_0,.string a1_1]) (t:=29) ?_;intro An hg w35 hbox hb;have A1:=Aside0.mk (hbox);have Ao:=bz0 hg HB;have A5:=bz0 hg HB;replace HB:=bs0 HB hb;clear hb hbox hg;have hcz36__:=c2_ A1;have hfz36__:=f_ A1)|((with_reducible refine gate_callee (f:=61) rfl ?_);refine goesL_ (some 21) rfl rfl Try.func61 (by kernel_rfl) rfl #[.agg #[.int .i64 a1_0,.string a1_1],.int .i64 0] rfl ml ?_;(with_reducible refine (spec_Half.calls k a1_0 a1_1 0 Ag Ah Ap _ A8.out).mono ?_);rintro e w37 ⟨rfl,hb⟩;refine ⟨_,rfl,?_⟩;replace A1:=bb A1 hb;replace HB:=bs1 HB hb A5;(try clear hb);(try clear hb2);(try clear hk);(try clear hi))|((with_reducible refine gate_dst (N:=5) rfl ?_);refine bx (N:=5) (cs:=#[.int .i64 0,.string (⟨#[]⟩:ByteArray)]) (t:=29) ?_;intro Ai hg w38 hbox hb;have A2:=Aside0.mk (hbox);have Ar:=bz1 hg HB A5;have Ae:=bz1 hg HB A5;replace HB:=bs1 HB hb A5;have Af:=nl hg A1;have Aj:=ng hg A1;replace A1:=bb A1 hb;clear hb hbox hg;have hnb39:=Aj.out;have hnc39:=Af.out;have hcz40__:=c2_ A2;have hfz40__:=f_ A2;have hcz41__:=c2_ A1;have hfz41__:=f_ A1)|((with_reducible refine gate_callee (f:=61) rfl ?_);refine goesL_ (some 26) rfl rfl Try.func61 (by kernel_rfl) rfl #[.agg #[.int .i64 a1_0,.string a1_1],.int .i64 1] rfl ml ?_;(with_reducible refine (spec_Half.calls k a1_0 a1_1 1 Aa Ad Aq _ A9.out).mono ?_);rintro e w42 ⟨rfl,hb⟩;refine ⟨_,rfl,?_⟩;replace A1:=Aside0.mk (blk_below (dq A1 Af) hb);replace A2:=Aside0.mk (blk_below (g:=Ai) (o := .cells #[.int .i64 Ag,.string Ah] 29 (0,0)) (by (with_reducible repeat (first|refine blk_drewN ?_ _|refine blk_drew ?_|refine blk_alloc ?_ _));exact bp2 A2.out) hb);replace HB:=bs2 HB hb A5 Ae;(try clear hb);(try clear hb2);(try clear hk);(try clear hi))|((with_reducible refine gate_dst (N:=7) rfl ?_);refine bx (N:=7) (cs:=#[.int .i64 0,.string (⟨#[]⟩:ByteArray)]) (t:=29) ?_;intro A4 hg w43 hbox hb;have A3:=Aside0.mk (hbox);have As:=bz2 hg HB A5 Ae;have Am:=bz2 hg HB A5 Ae;replace HB:=bs2 HB hb A5 Ae;have A6:=nl hg A1;have Ak:=ng hg A1;replace A1:=bb A1 hb;have A7:=nl hg A2;have Al:=ng hg A2;replace A2:=bb A2 hb;clear hb hbox hg;have hnb44:=Ak.out;have hnc44:=A6.out;have hnb45:=Al.out;have hnc45:=A7.out;have hcz46__:=c2_ A3;have hfz46__:=f_ A3))
     have n0_:Aside0 (((w43.setCell ⟨A4,0,none⟩ (.int .i64 Aa)).setCell ⟨A4,1,none⟩ (.string Ad)).heap[An]? = some (.cells #[.int .i64 a1_0,.string a1_1] 29 (0,0))):=⟨by (with_reducible repeat (first|refine blk_drewN ?_ _|refine blk_drew ?_|refine blk_alloc ?_ _));refine blk_far ?_ A6.out _;(with_reducible repeat (first|refine blk_drewN ?_ _|refine blk_drew ?_|refine blk_alloc ?_ _));refine blk_far ?_ A6.out _;(with_reducible repeat (first|refine blk_drewN ?_ _|refine blk_drew ?_|refine blk_alloc ?_ _));exact A1.out⟩;have n1_:Aside0 (((w43.setCell ⟨A4,0,none⟩ (.int .i64 Aa)).setCell ⟨A4,1,none⟩ (.string Ad)).heap[Ai]? = some (.cells #[.int .i64 Ag,.string Ah] 29 (0,0))):=⟨by (with_reducible repeat (first|refine blk_drewN ?_ _|refine blk_drew ?_|refine blk_alloc ?_ _));refine blk_far ?_ A7.out _;(with_reducible repeat (first|refine blk_drewN ?_ _|refine blk_drew ?_|refine blk_alloc ?_ _));refine blk_far ?_ A7.out _;(with_reducible repeat (first|refine blk_drewN ?_ _|refine blk_drew ?_|refine blk_alloc ?_ _));exact A2.out⟩;have n2_:Aside0 (((w43.setCell ⟨A4,0,none⟩ (.int .i64 Aa)).setCell ⟨A4,1,none⟩ (.string Ad)).heap[A4]? = some (.cells #[.int .i64 Aa,.string Ad] 29 (0,0))):=⟨by (with_reducible repeat (first|refine blk_drewN ?_ _|refine blk_drew ?_|refine blk_alloc ?_ _));refine blk_put (cs:=#[.int .i64 Aa,.string (⟨#[]⟩:ByteArray)]) ?_ 1 _ rfl;(with_reducible repeat (first|refine blk_drewN ?_ _|refine blk_drew ?_|refine blk_alloc ?_ _));refine blk_put (cs:=#[.int .i64 0,.string (⟨#[]⟩:ByteArray)]) ?_ 0 _ rfl;(with_reducible repeat (first|refine blk_drewN ?_ _|refine blk_drew ?_|refine blk_alloc ?_ _));exact A3.out⟩;have n3_:Aside0 (Below w.heap.size w ((w43.setCell ⟨A4,0,none⟩ (.int .i64 Aa)).setCell ⟨A4,1,none⟩ (.string Ad))):=⟨by exact tb HB⟩;(try clear A1);(try clear A2);(try clear A3);(try clear HB);generalize ((w43.setCell ⟨A4,0,none⟩ (.int .i64 Aa)).setCell ⟨A4,1,none⟩ (.string Ad))=w47 at n0_ n1_ n2_ n3_ ⊢;have A1:=n0_;have A2:=n1_;have A3:=n2_;have HB:=n3_;clear n0_ n1_ n2_ n3_;replace A1:=Aside0.mk (blk_drew A1.out);replace A2:=Aside0.mk (blk_drew A2.out);replace A3:=Aside0.mk (blk_drew A3.out);replace HB:=Aside0.mk (below_drew1 HB.out);obtain ⟨i049,hi049,_,hsz49,_⟩:=info_parts info4;obtain ⟨A49,hcut49,hA49,hC49⟩:=print_drop_of (P:=Try.prog) Value.bool false 22 4 .i64 Try.underlying22 hi049 hsz49 A0 c0 l0 1 (by omega) (od) HC0.out;have HR110:=Aside0.mk (Kd.C_of_reads (h1:=fun _=>rfl) (hA49 _ (Kd.reads_of_C HR0.out)));have HC110:=Aside0.mk hC49;clear hA49 hC49 hi049 hsz49;obtain ⟨i050,hi050,_,hsz50,_⟩:=info_parts info4;obtain ⟨A50,hcut50,hA50,hC50⟩:=print_drop_of (P:=Try.prog) Value.bool false 22 4 .i64 Try.underlying22 hi050 hsz50 A0 c0 l0 1 (by omega) (od) HC0.out
     obtain rfl:A49=A50:=by have e_:=(hcut49 w).symm.trans (hcut50 w);injection e_ with e_;injection e_
     have HR112:=Aside0.mk (Kd.C_of_reads (h1:=fun _=>rfl) (hA50 _ (Kd.reads_of_C HR0.out)));have HC112:=Aside0.mk hC50;clear hA50 hC50 hi050 hsz50;refine start_ (n:=10) (S:=fun w'=>w'.cell? ⟨Ai,0,none⟩=some (.int .i64 Ag)∧w'.cell? ⟨Ai,1,none⟩=some (.string Ah)∧w'.cell? ⟨A4,0,none⟩=some (.int .i64 Aa)∧w'.cell? ⟨A4,1,none⟩=some (.string Ad)) (ds:=[]) (tf 0 10) (by kernel_rfl) rfl rfl ⟨(blk_cell A2.out 0).trans rfl,(blk_cell A2.out 1).trans rfl,(blk_cell A3.out 0).trans rfl,(blk_cell A3.out 1).trans rfl⟩ (fun hHeld=>?_);refine with_tabW spec_l08Decide.tab5 spec_l08Decide.bits5 (fun HT_ HW_=>?_);generalize w47.drew=w48 at A1 A2 A3 HB HR110 HR112 hHeld ⊢;refine pure_ (i:=0) (N:=some 29) (v:=?_) (a':=?_) (tf 1 9) rfl rfl (any_of HT_.out (by kernel_rfl)) (fun _ _ _ h=>h) (Or.inl ⟨by rfl,?_⟩) ?_ ?_;rotate_left
     ·intro w';go_simp;with_reducible rfl
     rotate_left
     ·simp only [Act.put,s1,s2,s3,i64_w,i32_w];rfl
     refine pure_ (i:=1) (N:=some 30) (v:=?_) (a':=?_) (tf 2 8) rfl rfl (any_of HT_.out (by kernel_rfl)) (fun _ _ _ h=>h) (Or.inl ⟨by rfl,?_⟩) ?_ ?_;rotate_left
     ·intro w';go_simp;with_reducible rfl
     rotate_left
     ·simp only [Act.put,s1,s2,s3,i64_w,i32_w];rfl
     refine pure_ (i:=4) (N:=some 33) (v:=?_) (a':=?_) #[true,true,false,false,true,false,false,false,false,false] rfl rfl (any_of HT_.out (by kernel_rfl)) (fun _ _ _ h=>h) (Or.inl ⟨by rfl,?_⟩) ?_ ?_;rotate_left
     ·intro w';go_simp;with_reducible rfl
     rotate_left
     ·simp only [Act.put,s1,s2,s3,i64_w,i32_w];rfl
     refine pure_ (i:=5) (N:=some 34) (v:=?_) (a':=?_) #[true,true,false,false,true,true,false,false,false,false] rfl rfl (any_of HT_.out (by kernel_rfl)) (fun _ _ _ h=>h) (Or.inl ⟨by rfl,?_⟩) ?_ ?_;rotate_left
     ·intro w';go_simp;with_reducible rfl
     rotate_left
     ·simp only [Act.put,s1,s2,s3,i64_w,i32_w];rfl
     refine take_ (i:=2) (N:=some 31) (v:=?_) (a':=?_) #[true,true,true,false,true,true,false,false,false,false] rfl rfl (take_ofW HT_.out HW_.out (by kernel_rfl)) (fun _ _ _ h=>h) (Or.inl ⟨by rfl,?_⟩) hHeld ?_ ?_;rotate_left
     ·rintro w' ⟨s0,s1,s2,s3⟩;go_simp;with_reducible rfl
     rotate_left
     ·simp only [Act.put,s1,s2,s3,i64_w,i32_w];rfl
     refine take_ (i:=6) (N:=some 35) (v:=?_) (a':=?_) #[true,true,true,false,true,true,true,false,false,false] rfl rfl (take_ofW HT_.out HW_.out (by kernel_rfl)) (fun _ _ _ h=>h) (Or.inl ⟨by rfl,?_⟩) hHeld ?_ ?_;rotate_left
     ·rintro w' ⟨s0,s1,s2,s3⟩;go_simp;with_reducible rfl
     rotate_left
     ·simp only [Act.put,s1,s2,s3,i64_w,i32_w];rfl
     refine one_ (i:=3) (N:=some 32) (tf 7 3) rfl rfl (one_of HT_.out (by kernel_rfl)) (by decide) (fun K hK=>?_);refine goes_ Try.func58 (by kernel_rfl) rfl #[.slice A49 (l0.drop 1).length (c0 - 1),.agg #[.int .i64 Ag,.string Ah]] (by rfl) rfl rfl (by (try simp only [List.map_toArray,List.map_cons,List.map_nil]);first|done|(rw [show (l0.drop 1).length=(l0.length - 1) from List.length_drop] <;> rfl)|rfl|(simp only [List.length_drop,List.length_take];rfl)) ?_
     with_reducible refine (ih k (by omega) _ _ (l0.drop 1) Ag Ah Ac _ ?side1 ?side2 A11.out).mono ?_
     (case side1=>exact cw (Kd.C_below HR110.out HB.out))
     (case side2=>exact HC110.out)
     rintro e w51 ⟨rfl,hb⟩;refine ⟨_,rfl,?_⟩;replace A1:=bb A1 hb;replace A2:=bb A2 hb;replace A3:=bb A3 hb;replace HB:=bs3 HB hb A5 Ae Am;(try clear hb);(try clear hb2);(try clear hk);(try clear hi);refine hK.out _ _ ⟨(blk_cell A2.out 0).trans rfl,(blk_cell A2.out 1).trans rfl,(blk_cell A3.out 0).trans rfl,(blk_cell A3.out 1).trans rfl⟩ (fun hHeld=>?_);clear hK K;refine norm_ (a':=?_) ?_ ?_;rotate_left
     ·show Act.put _ (some 32) _=_
      simp only [Act.put,s1,s2,s3,i64_w,i32_w];rfl
     refine one_ (i:=7) (N:=some 36) (tf 8 2) rfl rfl (one_of HT_.out (by kernel_rfl)) (by decide) (fun K hK=>?_);refine goes_ Try.func58 (by kernel_rfl) rfl #[.slice A49 (l0.drop 1).length (c0 - 1),.agg #[.int .i64 Aa,.string Ad]] (by rfl) rfl rfl (by (try simp only [List.map_toArray,List.map_cons,List.map_nil]);first|done|(rw [show (l0.drop 1).length=(l0.length - 1) from List.length_drop] <;> rfl)|rfl|(simp only [List.length_drop,List.length_take];rfl)) ?_
     with_reducible refine (ih k (by omega) _ _ (l0.drop 1) Aa Ad Ab _ ?side1 ?side2 A13.out).mono ?_
     (case side1=>exact cw (Kd.C_below HR112.out HB.out))
     (case side2=>exact HC112.out)
     rintro e w52 ⟨rfl,hb⟩;refine ⟨_,rfl,?_⟩;replace A1:=bb A1 hb;replace A2:=bb A2 hb;replace A3:=bb A3 hb;replace HB:=bs3 HB hb A5 Ae Am;(try clear hb);(try clear hb2);(try clear hk);(try clear hi);refine hK.out _ _ ⟨(blk_cell A2.out 0).trans rfl,(blk_cell A2.out 1).trans rfl,(blk_cell A3.out 0).trans rfl,(blk_cell A3.out 1).trans rfl⟩ (fun hHeld=>?_);clear hK K;refine norm_ (a':=?_) ?_ ?_;rotate_left
     ·show Act.put _ (some 36) _=_
      simp only [Act.put,s1,s2,s3,i64_w,i32_w];rfl
     refine pure_ (i:=8) (N:=some 9) (v:=?_) (a':=?_) (tf 9 1) rfl rfl (any_of HT_.out (by kernel_rfl)) (fun _ _ _ h=>h) (Or.inl ⟨by rfl,?_⟩) ?_ ?_;rotate_left
     ·intro w';go_simp;with_reducible rfl
     rotate_left
     ·simp only [Act.put,s1,s2,s3,i64_w,i32_w];rfl
     refine pure_ (i:=9) (N:=some 10) (v:=?_) (a':=?_) (tf 10 0) rfl rfl (any_of HT_.out (by kernel_rfl)) (fun _ _ _ h=>h) (Or.inl ⟨by rfl,?_⟩) ?_ ?_;rotate_left
     ·intro w';go_simp;with_reducible rfl
     rotate_left
     ·simp only [Act.put,s1,s2,s3,i64_w,i32_w];rfl
     refine done_ (done_of HT_.out (by kernel_rfl)) ?_;have p114:0≤(0:Int):=(by omega);have q114:0 < (l0.length:Int):=od;obtain ⟨ad114,e114,hx114_0⟩:=Kd.at_bool HR0.out 0 p114 q114
     (try rw [← Nbq15.out] at hx114_0)
     cases e114;have qi114:(0 < l0.length)=True:=eq_true (by omega)
     (try rw [show ((0:Int)).toNat=0 from rfl] at hx114_0)
     (try rw [Addr.add_zero'] at hx114_0)
     replace hx114_0:=ct HB hx114_0;replace p114:=eq_true p114;replace q114:=eq_true q114
     try go_wp2
     go_ret;exact ⟨by first|exact er|(simp [errW_none,errW_some,show ¬ l0=[] from by intro h_;rw [h_] at c14b0;simp at c14b0];done)|(simp [*,show ¬ l0=[] from by intro h_;rw [h_] at c14b0;simp at c14b0];done)|(simp [errW_none,errW_some,show ¬ l0=[] from by intro h_;rw [h_] at c14b0;simp at c14b0] <;> rfl),tb HB⟩
   ·rw [if_neg c14] at H;exact absurd H (by simp)
  ·rw [if_neg c10] at H;exact absurd H (by simp)
end Go.Proofs.Ytlpfmhikahlcoaa.G
namespace Go.Proofs.Ytlpfmhikahlcoaa.G
open Go.Proofs.Ytlpfmhikahlcoaa.Sh
open Go.RowKit Go.Proofs.YtlpfmhikahlcoaaW.PrintWords Go.Proofs.YtlpfmhikahlcoaaW.PrintLast Go.Proofs.YtlpfmhikahlcoaaW.PrintMore
attribute [local go_sem] max2_int min2_int max_two min_two max_three min_three max_four min_four
set_option linter.unusedVariables false
set_option linter.unusedSimpArgs false
def spec_l08Ok.f (k:Nat) (l0:List Bool) (a1_0:Int) (a1_1:ByteArray):Option (Bool):=(spec_TableOk.f k a1_0 a1_1).bind fun A4=>(if A4=true then (some ((l0.length:Int) == a1_0)) else (some false))
set_option maxHeartbeats 8000000 in
set_option maxRecDepth 100000 in
theorem spec_l08Ok.calls (k:Nat) (A0:Option Addr) (c0:Nat) (l0:List Bool) (a1_0:Int) (a1_1:ByteArray) (r:Bool) (w:World) (hr0:Kd.C Kd.bool w A0 l0.length l0) (hc0:l0.length≤c0) (h:spec_l08Ok.f k l0 a1_0 a1_1=some r) :
  Calls Try.prog 57 #[.slice A0 l0.length c0,.agg #[.int .i64 a1_0,.string a1_1]] w fun e w'=>e = .returned (.bool r)∧Below w.heap.size w w':=by
 have hu29:=Try.underlying29;have HR0:=Aside0.mk hr0;have HC0:=Aside0.mk hc0;clear hr0 hc0;have HB:=Aside0.mk (Below.refl w.heap.size w);have H:((spec_TableOk.f k a1_0 a1_1).bind fun A4=>(if A4=true then (some ((l0.length:Int) == a1_0)) else (some false)))=some r:=h;clear h;replace H:=ob H;obtain ⟨A4,A30,H⟩:=H;replace H:(if A4=true then (some ((l0.length:Int) == a1_0)) else (some false))=some r:=H;have A3:=Aside0.mk A30;clear A30
 by_cases c4:A4=true
 ·subst c4
  have H1:(some ((l0.length:Int) == a1_0))=some r:=by rw [if_pos rfl] at H;exact H
  clear H;have H:=H1;clear H1;obtain rfl:=os H
  go_enter Try.func57,Try.ntmps57
  go_wp2_with (first|((with_reducible refine gate_dst (N:=3) rfl ?_);(try (refine gate_guard (by rfl) ?_;dsimp only));refine bx (N:=3) (cs:=#[.int .i64 a1_0,.string a1_1]) (t:=29) ?_;intro A2 hg w5 hbox hb;have A1:=Aside0.mk (hbox);have A5:=Aside0.mk ((by rw [hg];exact (below_size (tb HB)):w.heap.size≤A2));have A6:=Aside0.mk ((by rw [hg];exact (below_size (tb HB)):w.heap.size≤A2));replace HB:=Aside0.mk (below_step (tb HB) hb);clear hb hbox hg;have hcz6__:=c2_ A1;have hfz6__:=f_ A1)|((with_reducible refine gate_callee (f:=105) rfl ?_);refine goesL_ (some 6) rfl rfl Try.func105 (by kernel_rfl) rfl #[.agg #[.int .i64 a1_0,.string a1_1]] rfl ml ?_;(with_reducible refine (spec_TableOk.calls k a1_0 a1_1 true _ A3.out).mono ?_);rintro e w7 ⟨rfl,hb⟩;refine ⟨_,rfl,?_⟩;replace A1:=Aside0.mk (blk_below (g:=A2) (o := .cells #[.int .i64 a1_0,.string a1_1] 29 (0,0)) (dr A1) hb);replace HB:=Aside0.mk (below_step (tb HB) hb);(try clear hb);(try clear hb2);(try clear hk);(try clear hi);have hcz8__:=c2_ A1;have hfz8__:=f_ A1));go_ret;exact ⟨er,tb HB⟩
 ·replace c4:=Bool.eq_false_iff.mpr c4;subst c4
  have H1:(some false)=some r:=by rw [if_neg (show ¬ (false=true) by decide)] at H;exact H
  clear H;have H:=H1;clear H1;obtain rfl:=os H
  go_enter Try.func57,Try.ntmps57
  go_wp2_with (first|((with_reducible refine gate_dst (N:=3) rfl ?_);(try (refine gate_guard (by rfl) ?_;dsimp only));refine bx (N:=3) (cs:=#[.int .i64 a1_0,.string a1_1]) (t:=29) ?_;intro A2 hg w9 hbox hb;have A1:=Aside0.mk (hbox);have A5:=Aside0.mk ((by rw [hg];exact (below_size (tb HB)):w.heap.size≤A2));have A6:=Aside0.mk ((by rw [hg];exact (below_size (tb HB)):w.heap.size≤A2));replace HB:=Aside0.mk (below_step (tb HB) hb);clear hb hbox hg;have hcz10__:=c2_ A1;have hfz10__:=f_ A1)|((with_reducible refine gate_callee (f:=105) rfl ?_);refine goesL_ (some 6) rfl rfl Try.func105 (by kernel_rfl) rfl #[.agg #[.int .i64 a1_0,.string a1_1]] rfl ml ?_;(with_reducible refine (spec_TableOk.calls k a1_0 a1_1 false _ A3.out).mono ?_);rintro e w11 ⟨rfl,hb⟩;refine ⟨_,rfl,?_⟩;replace A1:=Aside0.mk (blk_below (g:=A2) (o := .cells #[.int .i64 a1_0,.string a1_1] 29 (0,0)) (dr A1) hb);replace HB:=Aside0.mk (below_step (tb HB) hb);(try clear hb);(try clear hb2);(try clear hk);(try clear hi)));go_ret;exact ⟨er,tb HB⟩
def spec_Decide.f (k:Nat) (l0:List Bool) (a1_0:Int) (a1_1:ByteArray):Option (Int × Bool):=(spec_l08Ok.f k l0 a1_0 a1_1).bind fun A6=>(if A6=true then ((spec_l08Decide.f k l0 a1_0 a1_1).bind fun A4=>(some (A4,true))) else (some (0,false)))
set_option maxHeartbeats 8000000 in
set_option maxRecDepth 100000 in
theorem spec_Decide.calls (k:Nat) (A0:Option Addr) (c0:Nat) (l0:List Bool) (a1_0:Int) (a1_1:ByteArray) (r1:Int) (r2:Bool) (w:World) (hr0:Kd.C Kd.bool w A0 l0.length l0) (hc0:l0.length≤c0) (h:spec_Decide.f k l0 a1_0 a1_1=some (r1,r2)) :
  Calls Try.prog 16 #[.slice A0 l0.length c0,.agg #[.int .i64 a1_0,.string a1_1]] w fun e w'=>e = .returned (.tuple #[.int .i64 r1,.bool r2])∧Below w.heap.size w w':=by
 have hu29:=Try.underlying29;have HR0:=Aside0.mk hr0;have HC0:=Aside0.mk hc0;clear hr0 hc0;have HB:=Aside0.mk (Below.refl w.heap.size w);have H:((spec_l08Ok.f k l0 a1_0 a1_1).bind fun A6=>(if A6=true then ((spec_l08Decide.f k l0 a1_0 a1_1).bind fun A4=>(some (A4,true))) else (some (0,false))))=some (r1,r2):=h;clear h;replace H:=ob H;obtain ⟨A6,A30,H⟩:=H;replace H:(if A6=true then ((spec_l08Decide.f k l0 a1_0 a1_1).bind fun A4=>(some (A4,true))) else (some (0,false)))=some (r1,r2):=H;have A3:=Aside0.mk A30;clear A30
 by_cases c4:A6=true
 ·subst c4
  have H1:((spec_l08Decide.f k l0 a1_0 a1_1).bind fun A4=>(some (A4,true)))=some (r1,r2):=by rw [if_pos rfl] at H;exact H
  clear H;have H:=H1;clear H1;replace H:=ob H;obtain ⟨A4,A50,H⟩:=H;replace H:(some (A4,true))=some (r1,r2):=H;have A5:=Aside0.mk A50;clear A50;simp only [Option.some.injEq,Prod.mk.injEq] at H;obtain ⟨rfl,rfl⟩:=H
  go_enter Try.func16,Try.ntmps16
  go_wp2_with (first|((with_reducible refine gate_dst (N:=3) rfl ?_);refine bx (N:=3) (cs:=#[.int .i64 a1_0,.string a1_1]) (t:=29) ?_;intro A2 hg w6 hbox hb;have A1:=Aside0.mk (hbox);have A7:=Aside0.mk ((by rw [hg];exact (below_size (tb HB)):w.heap.size≤A2));have A8:=Aside0.mk ((by rw [hg];exact (below_size (tb HB)):w.heap.size≤A2));replace HB:=Aside0.mk (below_step (tb HB) hb);clear hb hbox hg;have hcz7__:=c2_ A1;have hfz7__:=f_ A1)|((with_reducible refine gate_callee (f:=57) rfl ?_);refine goesL_ (some 8) rfl rfl Try.func57 (by kernel_rfl) rfl #[.slice A0 l0.length c0,.agg #[.int .i64 a1_0,.string a1_1]] rfl ml ?_;(with_reducible refine (spec_l08Ok.calls k _ _ l0 a1_0 a1_1 true _ ?side1 ?side2 A3.out).mono ?_);(case side1=>exact cw (Kd.C_below HR0.out HB.out));(case side2=>exact HC0.out);rintro e w8 ⟨rfl,hb⟩;refine ⟨_,rfl,?_⟩;replace A1:=Aside0.mk (blk_below (g:=A2) (o := .cells #[.int .i64 a1_0,.string a1_1] 29 (0,0)) (dr A1) hb);replace HB:=Aside0.mk (below_step (tb HB) hb);(try clear hb);(try clear hb2);(try clear hk);(try clear hi);have hcz9__:=c2_ A1;have hfz9__:=f_ A1)|((with_reducible refine gate_callee (f:=58) rfl ?_);refine goesL_ (some 12) rfl rfl Try.func58 (by kernel_rfl) rfl #[.slice A0 l0.length c0,.agg #[.int .i64 a1_0,.string a1_1]] rfl ml ?_;(with_reducible refine (spec_l08Decide.calls k _ _ l0 a1_0 a1_1 A4 _ ?side1 ?side2 A5.out).mono ?_);(case side1=>exact cw (Kd.C_below HR0.out HB.out));(case side2=>exact HC0.out);rintro e w10 ⟨rfl,hb⟩;refine ⟨_,rfl,?_⟩;replace A1:=Aside0.mk (blk_below (g:=A2) (o := .cells #[.int .i64 a1_0,.string a1_1] 29 (0,0)) (dr A1) hb);replace HB:=Aside0.mk (below_step (tb HB) hb);(try clear hb);(try clear hb2);(try clear hk);(try clear hi)));go_ret2;exact ⟨er,tb HB⟩
 ·replace c4:=Bool.eq_false_iff.mpr c4;subst c4
  have H1:(some (0,false))=some (r1,r2):=by rw [if_neg (show ¬ (false=true) by decide)] at H;exact H
  clear H;have H:=H1;clear H1;simp only [Option.some.injEq,Prod.mk.injEq] at H;obtain ⟨rfl,rfl⟩:=H
  go_enter Try.func16,Try.ntmps16
  go_wp2_with (first|((with_reducible refine gate_dst (N:=3) rfl ?_);refine bx (N:=3) (cs:=#[.int .i64 a1_0,.string a1_1]) (t:=29) ?_;intro A2 hg w11 hbox hb;have A1:=Aside0.mk (hbox);have A7:=Aside0.mk ((by rw [hg];exact (below_size (tb HB)):w.heap.size≤A2));have A8:=Aside0.mk ((by rw [hg];exact (below_size (tb HB)):w.heap.size≤A2));replace HB:=Aside0.mk (below_step (tb HB) hb);clear hb hbox hg;have hcz12__:=c2_ A1;have hfz12__:=f_ A1)|((with_reducible refine gate_callee (f:=57) rfl ?_);refine goesL_ (some 8) rfl rfl Try.func57 (by kernel_rfl) rfl #[.slice A0 l0.length c0,.agg #[.int .i64 a1_0,.string a1_1]] rfl ml ?_;(with_reducible refine (spec_l08Ok.calls k _ _ l0 a1_0 a1_1 false _ ?side1 ?side2 A3.out).mono ?_);(case side1=>exact cw (Kd.C_below HR0.out HB.out));(case side2=>exact HC0.out);rintro e w13 ⟨rfl,hb⟩;refine ⟨_,rfl,?_⟩;replace A1:=Aside0.mk (blk_below (g:=A2) (o := .cells #[.int .i64 a1_0,.string a1_1] 29 (0,0)) (dr A1) hb);replace HB:=Aside0.mk (below_step (tb HB) hb);(try clear hb);(try clear hb2);(try clear hk);(try clear hi)));go_ret2;exact ⟨er,tb HB⟩
end Go.Proofs.Ytlpfmhikahlcoaa.G
namespace Go.Proofs.Ytlpfmhikahlcoaa.G
open Go.Proofs.Ytlpfmhikahlcoaa.Sh Go.RowKit Go.Proofs.YtlpfmhikahlcoaaW.PrintWords Go.Proofs.YtlpfmhikahlcoaaW.PrintLast Go.Proofs.YtlpfmhikahlcoaaW.PrintMore
attribute [local go_sem] max2_int min2_int max_two min_two max_three min_three max_four min_four
set_option linter.unusedVariables false
set_option linter.unusedSimpArgs false
def spec_Choose.j0:Nat→List Bool→Bool→Int→ByteArray→Option (Int × Bool)
 | 0,_,_,_,_=>none
 | k + 1,x0,x16,x102000,x102001=>if x16=true then (some (0,false)) else ((spec_Half.f k x102000 x102001 0).bind fun bt103=>(if 1≤(x0.length:Int) then ((spec_l08Decide.f k (x0.drop 1) bt103.1 bt103.2.1).bind fun Aa=>((spec_l08Decide.f k x0 x102000 x102001).bind fun A9=>(if Aa=A9 then (some (0,true)) else (some (1,true))))) else (none)))
def spec_Choose.f (k:Nat) (l0:List Bool) (a1_0:Int) (a1_1:ByteArray):Option (Int × Bool):=(spec_l08Ok.f k l0 a1_0 a1_1).bind fun Af=>(if Af=true then (spec_Choose.j0 k l0 (a1_0 == 0) a1_0 a1_1) else (spec_Choose.j0 k l0 true a1_0 a1_1))
def spec_Choose.T4:Bool × List (List Nat × List Nat):=(true,[([],[]),([0],[0]),([],[]),([1,2],[1,2]),([],[]),([],[]),([4,5,3],[4,5]),([3,6],[3,6])])
def spec_Choose.B4:List Nat:=[0,1,0,7,0,0,63,127]
theorem spec_Choose.tab4:rtab .any (opsOf Try.f21 4)=spec_Choose.T4:=by kernel_rfl
theorem spec_Choose.bits4:waitsOk spec_Choose.T4.2 spec_Choose.B4=true:=by kernel_rfl
set_option maxHeartbeats 80000000 in
set_option maxRecDepth 100000 in
theorem spec_Choose.calls (k:Nat) (A0:Option Addr) (c0:Nat) (l0:List Bool) (a1_0:Int) (a1_1:ByteArray) (r1:Int) (r2:Bool) (w:World) (hr0:Kd.C Kd.bool w A0 l0.length l0) (hc0:l0.length≤c0) (h:spec_Choose.f k l0 a1_0 a1_1=some (r1,r2)) :
  Calls Try.prog 21 #[.slice A0 l0.length c0,.agg #[.int .i64 a1_0,.string a1_1]] w fun e w'=>e = .returned (.tuple #[.int .i64 r1,.bool r2])∧Below w.heap.size w w':=by
 have hu29:=Try.underlying29;have HR0:=Aside0.mk hr0;have HC0:=Aside0.mk hc0;clear hr0 hc0;have HB:=Aside0.mk (Below.refl w.heap.size w);have H:((spec_l08Ok.f k l0 a1_0 a1_1).bind fun Af=>(if Af=true then (spec_Choose.j0 k l0 (a1_0 == 0) a1_0 a1_1) else (spec_Choose.j0 k l0 true a1_0 a1_1)))=some (r1,r2):=h;clear h;have HC3:=Aside0.mk H;clear H
 go_enter Try.func21,Try.ntmps21
 go_upto_region 1 with (first|((with_reducible refine gate_dst (N:=3) rfl ?_);refine bx (N:=3) (cs:=#[.int .i64 a1_0,.string a1_1]) (t:=29) ?_;intro Ac hg w4 hbox hb;have A1:=Aside0.mk (hbox);have GW101:=bz0 hg HB;have A6:=bz0 hg HB;replace HB:=bs0 HB hb;clear hb hbox hg))
 (try simp only [Act.put,List.setIfInBounds_toArray,List.set_cons_zero,List.set_cons_succ])
 go_cut [16] (fun v16 wc=>∃ (kq:Nat) (Ae:Bool),v16 = .bool Ae∧Aside0 (spec_Choose.j0 kq l0 Ae a1_0 a1_1=some (r1,r2))∧Aside0 (kq≤k)∧Aside0 (wc.heap[Ac]? = some (.cells #[.int .i64 a1_0,.string a1_1] 29 (0,0)))∧Aside0 (Below w.heap.size w wc))
 case first =>
  have H:=HC3.out;clear HC3;replace H:=ob H;obtain ⟨Af,A50,H⟩:=H;replace H:(if Af=true then (spec_Choose.j0 k l0 (a1_0 == 0) a1_0 a1_1) else (spec_Choose.j0 k l0 true a1_0 a1_1))=some (r1,r2):=H;have A5:=Aside0.mk A50;clear A50
  by_cases c6:Af=true
  ·subst c6
   have H1:(spec_Choose.j0 k l0 (a1_0 == 0) a1_0 a1_1)=some (r1,r2):=by rw [if_pos rfl] at H;exact H
   clear H;have H:=H1;clear H1;have H':=Aside0.mk H;clear H;have hcz7__:=c2_ A1;have hfz7__:=f_ A1;go_wp2_with (first|((with_reducible refine gate_callee (f:=57) rfl ?_);refine goesL_ (some 10) rfl rfl Try.func57 (by kernel_rfl) rfl #[.slice A0 l0.length c0,.agg #[.int .i64 a1_0,.string a1_1]] rfl ml ?_;(with_reducible refine (spec_l08Ok.calls k _ _ l0 a1_0 a1_1 true _ ?side1 ?side2 A5.out).mono ?_);(case side1=>exact cw (Kd.C_below HR0.out HB.out));(case side2=>exact HC0.out);rintro e w8 ⟨rfl,hb⟩;refine ⟨_,rfl,?_⟩;replace A1:=bb A1 hb;replace HB:=bs1 HB hb A6;(try clear hb);(try clear hb2);(try clear hk);(try clear hi);have hcz9__:=c2_ A1;have hfz9__:=f_ A1));go_meet
   case rel=>exact ⟨_,((a1_0 == 0)),(by first|rfl|(simp;done)|(simp [*];done)),H',⟨by first|omega|exact Nat.le_refl _⟩,⟨dr A1⟩,⟨by exact tb HB⟩⟩
  ·replace c6:=Bool.eq_false_iff.mpr c6;subst c6
   have H1:(spec_Choose.j0 k l0 true a1_0 a1_1)=some (r1,r2):=by rw [if_neg (show ¬ (false=true) by decide)] at H;exact H
   clear H;have H:=H1;clear H1;have H':=Aside0.mk H;clear H;have hcz10__:=c2_ A1;have hfz10__:=f_ A1;go_wp2_with (first|((with_reducible refine gate_callee (f:=57) rfl ?_);refine goesL_ (some 10) rfl rfl Try.func57 (by kernel_rfl) rfl #[.slice A0 l0.length c0,.agg #[.int .i64 a1_0,.string a1_1]] rfl ml ?_;(with_reducible refine (spec_l08Ok.calls k _ _ l0 a1_0 a1_1 false _ ?side1 ?side2 A5.out).mono ?_);(case side1=>exact cw (Kd.C_below HR0.out HB.out));(case side2=>exact HC0.out);rintro e w11 ⟨rfl,hb⟩;refine ⟨_,rfl,?_⟩;replace A1:=bb A1 hb;replace HB:=bs1 HB hb A6;(try clear hb);(try clear hb2);(try clear hk);(try clear hi)));go_meet
   case rel=>exact ⟨_,(true),(by first|rfl|(simp;done)|(simp [*];done)),H',⟨by first|omega|exact Nat.le_refl _⟩,⟨dr A1⟩,⟨by exact tb HB⟩⟩
 case rest =>
  clear HC3;(try clear c2);(try clear p2);(try clear c5);(try clear c6);(try clear hcz10__);(try clear hcz7__);(try clear hcz9__);(try clear hfz10__);(try clear hfz7__);(try clear hfz9__);obtain ⟨kq,Ae,rfl,HA,HJ2,A1,HB⟩:=hcut
  cases kq with
    | zero=>exact absurd HA.out (by simp [spec_Choose.j0])
    | succ kj2 =>
   have H:=HA.out;clear HA;simp only [spec_Choose.j0] at H
   by_cases c12:Ae=true
   ·subst c12
    have H1:(some (0,false))=some (r1,r2):=by rw [if_pos rfl] at H;exact H
    clear H;have H:=H1;clear H1;simp only [Option.some.injEq,Prod.mk.injEq] at H;obtain ⟨rfl,rfl⟩:=H;go_wp2;go_ret2;exact ⟨er,tb HB⟩
   ·replace c12:=Bool.eq_false_iff.mpr c12;subst c12
    have H1:((spec_Half.f kj2 a1_0 a1_1 0).bind fun bt103=>(if 1≤(l0.length:Int) then ((spec_l08Decide.f kj2 (l0.drop 1) bt103.1 bt103.2.1).bind fun Aa=>((spec_l08Decide.f kj2 l0 a1_0 a1_1).bind fun A9=>(if Aa=A9 then (some (0,true)) else (some (1,true))))) else (none)))=some (r1,r2):=by rw [if_neg (show ¬ (false=true) by decide)] at H;exact H
    clear H;have H:=H1;clear H1;replace H:=ob H;obtain ⟨⟨A7,A8,Ag⟩,A130,H⟩:=H;replace H:(if 1≤(l0.length:Int) then ((spec_l08Decide.f kj2 (l0.drop 1) A7 A8).bind fun Aa=>((spec_l08Decide.f kj2 l0 a1_0 a1_1).bind fun A9=>(if Aa=A9 then (some (0,true)) else (some (1,true))))) else (none))=some (r1,r2):=H;have A13:=Aside0.mk A130;clear A130
    by_cases c14:1≤(l0.length:Int)
    ·rw [if_pos c14] at H;have c14b0:=eq_true c14;have c14b1:decide (1≤(l0.length:Int))=true:=decide_eq_true c14;clear c14;replace H:=ob H;obtain ⟨Aa,A150,H⟩:=H;replace H:((spec_l08Decide.f kj2 l0 a1_0 a1_1).bind fun A9=>(if Aa=A9 then (some (0,true)) else (some (1,true))))=some (r1,r2):=H;have A15:=Aside0.mk A150;clear A150;replace H:=ob H;obtain ⟨A9,A160,H⟩:=H;replace H:(if Aa=A9 then (some (0,true)) else (some (1,true)))=some (r1,r2):=H;have A16:=Aside0.mk A160;clear A160
     by_cases c17:Aa=A9
     ·rw [if_pos c17] at H;have c17b0:(Aa == A9)=true:=beq_iff_eq.mpr c17;have c17b1:(Aa != A9)=false:=bne_eq_false_iff_eq.mpr c17;clear c17;simp only [Option.some.injEq,Prod.mk.injEq] at H;obtain ⟨rfl,rfl⟩:=H;have hcz18__:=c2_ A1;have hfz18__:=f_ A1
      try go_wp2_with (first|((with_reducible refine gate_callee (f:=61) rfl ?_);refine goesL_ (some 19) rfl rfl Try.func61 (by kernel_rfl) rfl #[.agg #[.int .i64 a1_0,.string a1_1],.int .i64 0] rfl ml ?_;(with_reducible refine (spec_Half.calls kj2 a1_0 a1_1 0 A7 A8 Ag _ A13.out).mono ?_);rintro e w19 ⟨rfl,hb⟩;refine ⟨_,rfl,?_⟩;replace A1:=bb A1 hb;replace HB:=bs1 HB hb A6;(try clear hb);(try clear hb2);(try clear hk);(try clear hi))|((with_reducible refine gate_dst (N:=6) rfl ?_);refine bx (N:=6) (cs:=#[.int .i64 0,.string (⟨#[]⟩:ByteArray)]) (t:=29) ?_;intro A3 hg w20 hbox hb;have A2:=Aside0.mk (hbox);have Ah:=bz1 hg HB A6;have Ad:=bz1 hg HB A6;replace HB:=bs1 HB hb A6;have A4:=nl hg A1;have Ab:=ng hg A1;replace A1:=bb A1 hb;clear hb hbox hg;have hnb21:=Ab.out;have hnc21:=A4.out;have hcz22__:=c2_ A2;have hfz22__:=f_ A2))
      have n0_:Aside0 (((w20.setCell ⟨A3,0,none⟩ (.int .i64 A7)).setCell ⟨A3,1,none⟩ (.string A8)).heap[Ac]? = some (.cells #[.int .i64 a1_0,.string a1_1] 29 (0,0))):=⟨by (with_reducible repeat (first|refine blk_drewN ?_ _|refine blk_drew ?_|refine blk_alloc ?_ _));refine blk_far ?_ A4.out _;(with_reducible repeat (first|refine blk_drewN ?_ _|refine blk_drew ?_|refine blk_alloc ?_ _));refine blk_far ?_ A4.out _;(with_reducible repeat (first|refine blk_drewN ?_ _|refine blk_drew ?_|refine blk_alloc ?_ _));exact A1.out⟩;have n1_:Aside0 (((w20.setCell ⟨A3,0,none⟩ (.int .i64 A7)).setCell ⟨A3,1,none⟩ (.string A8)).heap[A3]? = some (.cells #[.int .i64 A7,.string A8] 29 (0,0))):=⟨by (with_reducible repeat (first|refine blk_drewN ?_ _|refine blk_drew ?_|refine blk_alloc ?_ _));refine blk_put (cs:=#[.int .i64 A7,.string (⟨#[]⟩:ByteArray)]) ?_ 1 _ rfl;(with_reducible repeat (first|refine blk_drewN ?_ _|refine blk_drew ?_|refine blk_alloc ?_ _));refine blk_put (cs:=#[.int .i64 0,.string (⟨#[]⟩:ByteArray)]) ?_ 0 _ rfl;(with_reducible repeat (first|refine blk_drewN ?_ _|refine blk_drew ?_|refine blk_alloc ?_ _));exact A2.out⟩;have n2_:Aside0 (Below w.heap.size w ((w20.setCell ⟨A3,0,none⟩ (.int .i64 A7)).setCell ⟨A3,1,none⟩ (.string A8))):=⟨by exact tb HB⟩;(try clear A1);(try clear A2);(try clear HB);generalize ((w20.setCell ⟨A3,0,none⟩ (.int .i64 A7)).setCell ⟨A3,1,none⟩ (.string A8))=w23 at n0_ n1_ n2_ ⊢;have A1:=n0_;have A2:=n1_;have HB:=n2_;clear n0_ n1_ n2_;replace A1:=Aside0.mk (blk_drew A1.out);replace A2:=Aside0.mk (blk_drew A2.out);replace HB:=Aside0.mk (below_drew1 HB.out);obtain ⟨i025,hi025,_,hsz25,_⟩:=info_parts info4;obtain ⟨A25,hcut25,hA25,hC25⟩:=print_drop_of (P:=Try.prog) Value.bool false 22 4 .i64 Try.underlying22 hi025 hsz25 A0 c0 l0 1 (by omega) (od) HC0.out;have HR107:=Aside0.mk (Kd.C_of_reads (h1:=fun _=>rfl) (hA25 _ (Kd.reads_of_C HR0.out)));have HC107:=Aside0.mk hC25;clear hA25 hC25 hi025 hsz25;refine start_ (n:=8) (S:=fun w'=>w'.cell? ⟨A3,0,none⟩=some (.int .i64 A7)∧w'.cell? ⟨A3,1,none⟩=some (.string A8)∧w'.cell? ⟨Ac,0,none⟩=some (.int .i64 a1_0)∧w'.cell? ⟨Ac,1,none⟩=some (.string a1_1)) (ds:=[]) (tf 0 8) (by kernel_rfl) rfl rfl ⟨(blk_cell A2.out 0).trans rfl,(blk_cell A2.out 1).trans rfl,(blk_cell A1.out 0).trans rfl,(blk_cell A1.out 1).trans rfl⟩ (fun hHeld=>?_);refine with_tabW spec_Choose.tab4 spec_Choose.bits4 (fun HT_ HW_=>?_);generalize w23.drew=w24 at A1 A2 HB HR107 hHeld ⊢;refine pure_ (i:=0) (N:=some 22) (v:=?_) (a':=?_) (tf 1 7) rfl rfl (any_of HT_.out (by kernel_rfl)) (fun _ _ _ h=>h) (Or.inl ⟨by rfl,?_⟩) ?_ ?_;rotate_left
      ·intro w';go_simp;with_reducible rfl
      rotate_left
      ·simp only [Act.put,s1,s2,s3,i64_w,i32_w];rfl
      refine pure_ (i:=1) (N:=some 23) (v:=?_) (a':=?_) (tf 2 6) rfl rfl (any_of HT_.out (by kernel_rfl)) (fun _ _ _ h=>h) (Or.inl ⟨by rfl,?_⟩) ?_ ?_;rotate_left
      ·intro w';go_simp;with_reducible rfl
      rotate_left
      ·simp only [Act.put,s1,s2,s3,i64_w,i32_w];rfl
      refine pure_ (i:=4) (N:=some 26) (v:=?_) (a':=?_) #[true,true,false,false,true,false,false,false] rfl rfl (any_of HT_.out (by kernel_rfl)) (fun _ _ _ h=>h) (Or.inl ⟨by rfl,?_⟩) ?_ ?_;rotate_left
      ·intro w';go_simp;with_reducible rfl
      rotate_left
      ·simp only [Act.put,s1,s2,s3,i64_w,i32_w];rfl
      refine take_ (i:=2) (N:=some 24) (v:=?_) (a':=?_) #[true,true,true,false,true,false,false,false] rfl rfl (take_ofW HT_.out HW_.out (by kernel_rfl)) (fun _ _ _ h=>h) (Or.inl ⟨by rfl,?_⟩) hHeld ?_ ?_;rotate_left
      ·rintro w' ⟨s0,s1,s2,s3⟩;go_simp;with_reducible rfl
      rotate_left
      ·simp only [Act.put,s1,s2,s3,i64_w,i32_w];rfl
      refine take_ (i:=5) (N:=some 27) (v:=?_) (a':=?_) #[true,true,true,false,true,true,false,false] rfl rfl (take_ofW HT_.out HW_.out (by kernel_rfl)) (fun _ _ _ h=>h) (Or.inl ⟨by rfl,?_⟩) hHeld ?_ ?_;rotate_left
      ·rintro w' ⟨s0,s1,s2,s3⟩;go_simp;with_reducible rfl
      rotate_left
      ·simp only [Act.put,s1,s2,s3,i64_w,i32_w];rfl
      refine one_ (i:=3) (N:=some 25) (tf 6 2) rfl rfl (one_of HT_.out (by kernel_rfl)) (by decide) (fun K hK=>?_);refine goes_ Try.func58 (by kernel_rfl) rfl #[.slice A25 (l0.drop 1).length (c0 - 1),.agg #[.int .i64 A7,.string A8]] (by rfl) rfl rfl (by (try simp only [List.map_toArray,List.map_cons,List.map_nil]);first|done|(rw [show (l0.drop 1).length=(l0.length - 1) from List.length_drop] <;> rfl)|rfl|(simp only [List.length_drop,List.length_take];rfl)) ?_
      with_reducible refine (spec_l08Decide.calls kj2 _ _ (l0.drop 1) A7 A8 Aa _ ?side1 ?side2 A15.out).mono ?_
      (case side1=>exact cw (Kd.C_below HR107.out HB.out))
      (case side2=>exact HC107.out)
      rintro e w26 ⟨rfl,hb⟩;refine ⟨_,rfl,?_⟩;replace A1:=bb A1 hb;replace A2:=bb A2 hb;replace HB:=bs2 HB hb A6 Ad;(try clear hb);(try clear hb2);(try clear hk);(try clear hi);refine hK.out _ _ ⟨(blk_cell A2.out 0).trans rfl,(blk_cell A2.out 1).trans rfl,(blk_cell A1.out 0).trans rfl,(blk_cell A1.out 1).trans rfl⟩ (fun hHeld=>?_);clear hK K;refine norm_ (a':=?_) ?_ ?_;rotate_left
      ·show Act.put _ (some 25) _=_
       simp only [Act.put,s1,s2,s3,i64_w,i32_w];rfl
      refine one_ (i:=6) (N:=some 28) (tf 7 1) rfl rfl (one_of HT_.out (by kernel_rfl)) (by decide) (fun K hK=>?_);refine goes_ Try.func58 (by kernel_rfl) rfl #[.slice A0 l0.length c0,.agg #[.int .i64 a1_0,.string a1_1]] (by rfl) rfl rfl ml ?_
      with_reducible refine (spec_l08Decide.calls kj2 _ _ l0 a1_0 a1_1 A9 _ ?side1 ?side2 A16.out).mono ?_
      (case side1=>exact cw (Kd.C_below HR0.out HB.out))
      (case side2=>exact HC0.out)
      rintro e w27 ⟨rfl,hb⟩;refine ⟨_,rfl,?_⟩;replace A1:=bb A1 hb;replace A2:=bb A2 hb;replace HB:=bs2 HB hb A6 Ad;(try clear hb);(try clear hb2);(try clear hk);(try clear hi);refine hK.out _ _ ⟨(blk_cell A2.out 0).trans rfl,(blk_cell A2.out 1).trans rfl,(blk_cell A1.out 0).trans rfl,(blk_cell A1.out 1).trans rfl⟩ (fun hHeld=>?_);clear hK K;refine norm_ (a':=?_) ?_ ?_;rotate_left
      ·show Act.put _ (some 28) _=_
       simp only [Act.put,s1,s2,s3,i64_w,i32_w];rfl
      refine pure_ (i:=7) (N:=some 29) (v:=?_) (a':=?_) (tf 8 0) rfl rfl (any_of HT_.out (by kernel_rfl)) (fun _ _ _ h=>h) (Or.inl ⟨by rfl,?_⟩) ?_ ?_;rotate_left
      ·intro w';go_simp;with_reducible rfl
      rotate_left
      ·simp only [Act.put,s1,s2,s3,i64_w,i32_w];rfl
      refine done_ (done_of HT_.out (by kernel_rfl)) ?_
      try go_wp2
      go_ret2;exact ⟨er,tb HB⟩
     ·rw [if_neg c17] at H;have c17b0:(Aa == A9)=false:=beq_eq_false_iff_ne.mpr c17;have c17b1:(Aa != A9)=true:=bne_iff_ne.mpr c17;simp only [Option.some.injEq,Prod.mk.injEq] at H;obtain ⟨rfl,rfl⟩:=H;have hcz28__:=c2_ A1;have hfz28__:=f_ A1
      try go_wp2_with (first|((with_reducible refine gate_callee (f:=61) rfl ?_);refine goesL_ (some 19) rfl rfl Try.func61 (by kernel_rfl) rfl #[.agg #[.int .i64 a1_0,.string a1_1],.int .i64 0] rfl ml ?_;(with_reducible refine (spec_Half.calls kj2 a1_0 a1_1 0 A7 A8 Ag _ A13.out).mono ?_);rintro e w29 ⟨rfl,hb⟩;refine ⟨_,rfl,?_⟩;replace A1:=bb A1 hb;replace HB:=bs1 HB hb A6;(try clear hb);(try clear hb2);(try clear hk);(try clear hi))|((with_reducible refine gate_dst (N:=6) rfl ?_);refine bx (N:=6) (cs:=#[.int .i64 0,.string (⟨#[]⟩:ByteArray)]) (t:=29) ?_;intro A3 hg w30 hbox hb;have A2:=Aside0.mk (hbox);have Ah:=bz1 hg HB A6;have Ad:=bz1 hg HB A6;replace HB:=bs1 HB hb A6;have A4:=nl hg A1;have Ab:=ng hg A1;replace A1:=bb A1 hb;clear hb hbox hg;have hnb31:=Ab.out;have hnc31:=A4.out;have hcz32__:=c2_ A2;have hfz32__:=f_ A2))
      have n0_:Aside0 (((w30.setCell ⟨A3,0,none⟩ (.int .i64 A7)).setCell ⟨A3,1,none⟩ (.string A8)).heap[Ac]? = some (.cells #[.int .i64 a1_0,.string a1_1] 29 (0,0))):=⟨by (with_reducible repeat (first|refine blk_drewN ?_ _|refine blk_drew ?_|refine blk_alloc ?_ _));refine blk_far ?_ A4.out _;(with_reducible repeat (first|refine blk_drewN ?_ _|refine blk_drew ?_|refine blk_alloc ?_ _));refine blk_far ?_ A4.out _;(with_reducible repeat (first|refine blk_drewN ?_ _|refine blk_drew ?_|refine blk_alloc ?_ _));exact A1.out⟩;have n1_:Aside0 (((w30.setCell ⟨A3,0,none⟩ (.int .i64 A7)).setCell ⟨A3,1,none⟩ (.string A8)).heap[A3]? = some (.cells #[.int .i64 A7,.string A8] 29 (0,0))):=⟨by (with_reducible repeat (first|refine blk_drewN ?_ _|refine blk_drew ?_|refine blk_alloc ?_ _));refine blk_put (cs:=#[.int .i64 A7,.string (⟨#[]⟩:ByteArray)]) ?_ 1 _ rfl;(with_reducible repeat (first|refine blk_drewN ?_ _|refine blk_drew ?_|refine blk_alloc ?_ _));refine blk_put (cs:=#[.int .i64 0,.string (⟨#[]⟩:ByteArray)]) ?_ 0 _ rfl;(with_reducible repeat (first|refine blk_drewN ?_ _|refine blk_drew ?_|refine blk_alloc ?_ _));exact A2.out⟩;have n2_:Aside0 (Below w.heap.size w ((w30.setCell ⟨A3,0,none⟩ (.int .i64 A7)).setCell ⟨A3,1,none⟩ (.string A8))):=⟨by exact tb HB⟩;(try clear A1);(try clear A2);(try clear HB);generalize ((w30.setCell ⟨A3,0,none⟩ (.int .i64 A7)).setCell ⟨A3,1,none⟩ (.string A8))=w33 at n0_ n1_ n2_ ⊢;have A1:=n0_;have A2:=n1_;have HB:=n2_;clear n0_ n1_ n2_;replace A1:=Aside0.mk (blk_drew A1.out);replace A2:=Aside0.mk (blk_drew A2.out);replace HB:=Aside0.mk (below_drew1 HB.out);obtain ⟨i035,hi035,_,hsz35,_⟩:=info_parts info4;obtain ⟨A35,hcut35,hA35,hC35⟩:=print_drop_of (P:=Try.prog) Value.bool false 22 4 .i64 Try.underlying22 hi035 hsz35 A0 c0 l0 1 (by omega) (od) HC0.out;have HR107:=Aside0.mk (Kd.C_of_reads (h1:=fun _=>rfl) (hA35 _ (Kd.reads_of_C HR0.out)));have HC107:=Aside0.mk hC35;clear hA35 hC35 hi035 hsz35;refine start_ (n:=8) (S:=fun w'=>w'.cell? ⟨A3,0,none⟩=some (.int .i64 A7)∧w'.cell? ⟨A3,1,none⟩=some (.string A8)∧w'.cell? ⟨Ac,0,none⟩=some (.int .i64 a1_0)∧w'.cell? ⟨Ac,1,none⟩=some (.string a1_1)) (ds:=[]) (tf 0 8) (by kernel_rfl) rfl rfl ⟨(blk_cell A2.out 0).trans rfl,(blk_cell A2.out 1).trans rfl,(blk_cell A1.out 0).trans rfl,(blk_cell A1.out 1).trans rfl⟩ (fun hHeld=>?_);refine with_tabW spec_Choose.tab4 spec_Choose.bits4 (fun HT_ HW_=>?_);generalize w33.drew=w34 at A1 A2 HB HR107 hHeld ⊢;refine pure_ (i:=0) (N:=some 22) (v:=?_) (a':=?_) (tf 1 7) rfl rfl (any_of HT_.out (by kernel_rfl)) (fun _ _ _ h=>h) (Or.inl ⟨by rfl,?_⟩) ?_ ?_;rotate_left
      ·intro w';go_simp;with_reducible rfl
      rotate_left
      ·simp only [Act.put,s1,s2,s3,i64_w,i32_w];rfl
      refine pure_ (i:=1) (N:=some 23) (v:=?_) (a':=?_) (tf 2 6) rfl rfl (any_of HT_.out (by kernel_rfl)) (fun _ _ _ h=>h) (Or.inl ⟨by rfl,?_⟩) ?_ ?_;rotate_left
      ·intro w';go_simp;with_reducible rfl
      rotate_left
      ·simp only [Act.put,s1,s2,s3,i64_w,i32_w];rfl
      refine pure_ (i:=4) (N:=some 26) (v:=?_) (a':=?_) #[true,true,false,false,true,false,false,false] rfl rfl (any_of HT_.out (by kernel_rfl)) (fun _ _ _ h=>h) (Or.inl ⟨by rfl,?_⟩) ?_ ?_;rotate_left
      ·intro w';go_simp;with_reducible rfl
      rotate_left
      ·simp only [Act.put,s1,s2,s3,i64_w,i32_w];rfl
      refine take_ (i:=2) (N:=some 24) (v:=?_) (a':=?_) #[true,true,true,false,true,false,false,false] rfl rfl (take_ofW HT_.out HW_.out (by kernel_rfl)) (fun _ _ _ h=>h) (Or.inl ⟨by rfl,?_⟩) hHeld ?_ ?_;rotate_left
      ·rintro w' ⟨s0,s1,s2,s3⟩;go_simp;with_reducible rfl
      rotate_left
      ·simp only [Act.put,s1,s2,s3,i64_w,i32_w];rfl
      refine take_ (i:=5) (N:=some 27) (v:=?_) (a':=?_) #[true,true,true,false,true,true,false,false] rfl rfl (take_ofW HT_.out HW_.out (by kernel_rfl)) (fun _ _ _ h=>h) (Or.inl ⟨by rfl,?_⟩) hHeld ?_ ?_;rotate_left
      ·rintro w' ⟨s0,s1,s2,s3⟩;go_simp;with_reducible rfl
      rotate_left
      ·simp only [Act.put,s1,s2,s3,i64_w,i32_w];rfl
      refine one_ (i:=3) (N:=some 25) (tf 6 2) rfl rfl (one_of HT_.out (by kernel_rfl)) (by decide) (fun K hK=>?_);refine goes_ Try.func58 (by kernel_rfl) rfl #[.slice A35 (l0.drop 1).length (c0 - 1),.agg #[.int .i64 A7,.string A8]] (by rfl) rfl rfl (by (try simp only [List.map_toArray,List.map_cons,List.map_nil]);first|done|(rw [show (l0.drop 1).length=(l0.length - 1) from List.length_drop] <;> rfl)|rfl|(simp only [List.length_drop,List.length_take];rfl)) ?_
      with_reducible refine (spec_l08Decide.calls kj2 _ _ (l0.drop 1) A7 A8 Aa _ ?side1 ?side2 A15.out).mono ?_
      (case side1=>exact cw (Kd.C_below HR107.out HB.out))
      (case side2=>exact HC107.out)
      rintro e w36 ⟨rfl,hb⟩;refine ⟨_,rfl,?_⟩;replace A1:=bb A1 hb;replace A2:=bb A2 hb;replace HB:=bs2 HB hb A6 Ad;(try clear hb);(try clear hb2);(try clear hk);(try clear hi);refine hK.out _ _ ⟨(blk_cell A2.out 0).trans rfl,(blk_cell A2.out 1).trans rfl,(blk_cell A1.out 0).trans rfl,(blk_cell A1.out 1).trans rfl⟩ (fun hHeld=>?_);clear hK K;refine norm_ (a':=?_) ?_ ?_;rotate_left
      ·show Act.put _ (some 25) _=_
       simp only [Act.put,s1,s2,s3,i64_w,i32_w];rfl
      refine one_ (i:=6) (N:=some 28) (tf 7 1) rfl rfl (one_of HT_.out (by kernel_rfl)) (by decide) (fun K hK=>?_);refine goes_ Try.func58 (by kernel_rfl) rfl #[.slice A0 l0.length c0,.agg #[.int .i64 a1_0,.string a1_1]] (by rfl) rfl rfl ml ?_
      with_reducible refine (spec_l08Decide.calls kj2 _ _ l0 a1_0 a1_1 A9 _ ?side1 ?side2 A16.out).mono ?_
      (case side1=>exact cw (Kd.C_below HR0.out HB.out))
      (case side2=>exact HC0.out)
      rintro e w37 ⟨rfl,hb⟩;refine ⟨_,rfl,?_⟩;replace A1:=bb A1 hb;replace A2:=bb A2 hb;replace HB:=bs2 HB hb A6 Ad;(try clear hb);(try clear hb2);(try clear hk);(try clear hi);refine hK.out _ _ ⟨(blk_cell A2.out 0).trans rfl,(blk_cell A2.out 1).trans rfl,(blk_cell A1.out 0).trans rfl,(blk_cell A1.out 1).trans rfl⟩ (fun hHeld=>?_);clear hK K;refine norm_ (a':=?_) ?_ ?_;rotate_left
      ·show Act.put _ (some 28) _=_
       simp only [Act.put,s1,s2,s3,i64_w,i32_w];rfl
      refine pure_ (i:=7) (N:=some 29) (v:=?_) (a':=?_) (tf 8 0) rfl rfl (any_of HT_.out (by kernel_rfl)) (fun _ _ _ h=>h) (Or.inl ⟨by rfl,?_⟩) ?_ ?_;rotate_left
      ·intro w';go_simp;with_reducible rfl
      rotate_left
      ·simp only [Act.put,s1,s2,s3,i64_w,i32_w];rfl
      refine done_ (done_of HT_.out (by kernel_rfl)) ?_
      try go_wp2
      go_ret2;exact ⟨er,tb HB⟩
    ·rw [if_neg c14] at H;exact absurd H (by simp)
def spec_Known.l0:Nat→Int→Int→ByteArray→Option (Int)
 | 0,_,_,_=>none
 | k + 1,x3,x102000,x102001=>if x3 < (x102001.size:Int) then (if 0≤x3 then (if 0 < (x102001.size:Int) then (if (bt x102001 x3)=(bt x102001 0) then (spec_Known.l0 k (wrap64 (x3 + 1)) x102000 x102001) else (some (-1))) else (none)) else (none)) else (if 0 < (x102001.size:Int) then (some (wrap64 ((wrap64 (bt x102001 0)) - 48))) else (none))
def spec_Known.f (k:Nat) (A3:Int) (A0:ByteArray):Option (Int):=(spec_TableOk.f k A3 A0).bind fun A8=>(if A8=true then (spec_Known.l0 k 1 A3 A0) else (some (-1)))
set_option maxHeartbeats 80000000 in
set_option maxRecDepth 100000 in
theorem spec_Known.calls (k:Nat) (A3:Int) (A0:ByteArray) (r:Int) (w:World) (h:spec_Known.f k A3 A0=some r) :
  Calls Try.prog 120 #[.agg #[.int .i64 A3,.string A0]] w fun e w'=>e = .returned (.int .i64 r)∧Below w.heap.size w w':=by
 have hu29:=Try.underlying29;have HB:=Aside0.mk (Below.refl w.heap.size w);have H:((spec_TableOk.f k A3 A0).bind fun A8=>(if A8=true then (spec_Known.l0 k 1 A3 A0) else (some (-1))))=some r:=h;clear h;replace H:=ob H;obtain ⟨A8,A20,H⟩:=H;replace H:(if A8=true then (spec_Known.l0 k 1 A3 A0) else (some (-1)))=some r:=H;have A2:=Aside0.mk A20;clear A20
 by_cases c3:A8=true
 ·subst c3
  have H1:(spec_Known.l0 k 1 A3 A0)=some r:=by rw [if_pos rfl] at H;exact H
  clear H;have H:=H1;clear H1;have H':=Aside0.mk H;clear H
  go_enter Try.func120,Try.ntmps120
  go_wp2_with (first|((with_reducible refine gate_dst (N:=1) rfl ?_);refine bx (N:=1) (cs:=#[.int .i64 A3,.string A0]) (t:=29) ?_;intro A6 hg w4 hbox hb;have A1:=Aside0.mk (hbox);have A7:=bz0 hg HB;have A5:=bz0 hg HB;replace HB:=bs0 HB hb;clear hb hbox hg;have hcz5__:=c2_ A1;have hfz5__:=f_ A1)|(go_at_call 105;(try simp only [i64_w,i32_w]);(with_reducible refine (spec_TableOk.calls k A3 A0 true _ A2.out).mono ?_);rintro e w6 ⟨rfl,hb⟩;replace A1:=bb A1 hb;replace HB:=bs1 HB hb A5;(try clear hb);(try clear hb2);(try clear hk);(try clear hi)))
  repeat (go_quiet (first|((with_reducible refine gate_dst (N:=1) rfl ?_);refine bx (N:=1) (cs:=#[.int .i64 A3,.string A0]) (t:=29) ?_;intro A6 hg w4 hbox hb;have A1:=Aside0.mk (hbox);have A7:=bz0 hg HB;have A5:=bz0 hg HB;replace HB:=bs0 HB hb;clear hb hbox hg;have hcz5__:=c2_ A1;have hfz5__:=f_ A1)|(go_at_call 105;(try simp only [i64_w,i32_w]);(with_reducible refine (spec_TableOk.calls k A3 A0 true _ A2.out).mono ?_);rintro e w6 ⟨rfl,hb⟩;replace A1:=bb A1 hb;replace HB:=bs1 HB hb A5;(try clear hb);(try clear hb2);(try clear hk);(try clear hi)));try go_wp2_with (first|((with_reducible refine gate_dst (N:=1) rfl ?_);refine bx (N:=1) (cs:=#[.int .i64 A3,.string A0]) (t:=29) ?_;intro A6 hg w4 hbox hb;have A1:=Aside0.mk (hbox);have A7:=bz0 hg HB;have A5:=bz0 hg HB;replace HB:=bs0 HB hb;clear hb hbox hg;have hcz5__:=c2_ A1;have hfz5__:=f_ A1)|(go_at_call 105;(try simp only [i64_w,i32_w]);(with_reducible refine (spec_TableOk.calls k A3 A0 true _ A2.out).mono ?_);rintro e w6 ⟨rfl,hb⟩;replace A1:=bb A1 hb;replace HB:=bs1 HB hb A5;(try clear hb);(try clear hb2);(try clear hk);(try clear hi))))
  go_loopg [3] k (fun kq v3 w'=>∃ (A4:Int),v3 = .int .i64 A4∧Aside0 (spec_Known.l0 kq A4 A3 A0=some r)∧Aside0 (kq≤k)∧Aside0 (w'.heap[A6]? = some (.cells #[.int .i64 A3,.string A0] 29 (0,0)))∧Aside0 (Below w.heap.size w w'))
  case atStart=>exact ⟨(1),(by first|rfl|(simp;done)|(simp [*];done)),H',⟨Nat.le_refl _⟩,⟨dr A1⟩,⟨by exact tb HB⟩⟩
  case round =>
   clear H';(try clear c1);(try clear p2);(try clear c3);(try clear hcz5__);(try clear hfz5__);obtain ⟨A4,rfl,HA,HK1,A1,HB⟩:=hrel
   cases gk with
      | zero=>exact absurd HA.out (by simp [spec_Known.l0])
      | succ k1 =>
    have H:=HA.out;clear HA;simp only [spec_Known.l0] at H
    by_cases c7:A4 < (A0.size:Int)
    ·rw [if_pos c7] at H;have c7b0:decide (A4 < (A0.size:Int))=true:=decide_eq_true c7;clear c7
     by_cases c8:0≤A4
     ·rw [if_pos c8] at H;have c8b0:decide (0≤A4)=true:=decide_eq_true c8;clear c8
      by_cases c10:0 < (A0.size:Int)
      ·rw [if_pos c10] at H;have c10b0:decide (0 < (A0.size:Int))=true:=decide_eq_true c10;have c10b1:decide (0 < A0.size)=true:=decide_eq_true (by omega);clear c10
       by_cases c12:(bt A0 A4)=(bt A0 0)
       ·rw [if_pos c12] at H;have c12b0:((bt A0 A4) == (bt A0 0))=true:=beq_iff_eq.mpr c12;have c12b1:((bt A0 A4) != (bt A0 0))=false:=bne_eq_false_iff_eq.mpr c12;clear c12;have H':=Aside0.mk H;clear H;have hcz13__:=c2_ A1;have hfz13__:=f_ A1;have p9:0≤(A4:Int):=od;have q9:A4 < (A0.size:Int):=od;have hx9:=bt_at A0 A4;replace p9:=eq_true p9;replace q9:=eq_true q9;have p11:0≤(0:Int):=(by omega);have q11:0 < A0.size:=(by have:(0:Int) < (A0.size:Int):=od;omega);have hx11:∀ h:0 < A0.size,((A0[0]'h).toNat:Int)=bt A0 0:=bt_at A0 0;clear p11;have qi11:(0 < (A0.size:Int))=True:=eq_true (od);replace q11:=eq_true q11;go_wp2
        repeat (go_quiet (fail);try go_wp2)
        go_roundg k1
        case measure=>have:=HK1.out;omega
        case rel=>exact ⟨(wrap64 (A4 + 1)),(by first|rfl|(simp;done)|(simp [*];done)),H',⟨by have:=HK1.out;omega⟩,⟨dr A1⟩,⟨by exact tb HB⟩⟩
       ·rw [if_neg c12] at H;have c12b0:((bt A0 A4) == (bt A0 0))=false:=beq_eq_false_iff_ne.mpr c12;have c12b1:((bt A0 A4) != (bt A0 0))=true:=bne_iff_ne.mpr c12;obtain rfl:=os H;have hcz14__:=c2_ A1;have hfz14__:=f_ A1;have p9:0≤(A4:Int):=od;have q9:A4 < (A0.size:Int):=od;have hx9:=bt_at A0 A4;replace p9:=eq_true p9;replace q9:=eq_true q9;have p11:0≤(0:Int):=(by omega);have q11:0 < A0.size:=(by have:(0:Int) < (A0.size:Int):=od;omega);have hx11:∀ h:0 < A0.size,((A0[0]'h).toNat:Int)=bt A0 0:=bt_at A0 0;clear p11;have qi11:(0 < (A0.size:Int))=True:=eq_true (od);replace q11:=eq_true q11;go_wp2
        repeat (go_quiet (fail);try go_wp2)
        go_ret;exact ⟨er,tb HB⟩
      ·rw [if_neg c10] at H;exact absurd H (by simp)
     ·rw [if_neg c8] at H;exact absurd H (by simp)
    ·rw [if_neg c7] at H;have c7b0:decide (A4 < (A0.size:Int))=false:=decide_eq_false c7;clear c7
     by_cases c15:0 < (A0.size:Int)
     ·rw [if_pos c15] at H;have c15b0:decide (0 < (A0.size:Int))=true:=decide_eq_true c15;have c15b1:decide (0 < A0.size)=true:=decide_eq_true (by omega);clear c15;obtain rfl:=os H;have hcz17__:=c2_ A1;have hfz17__:=f_ A1;have p16:0≤(0:Int):=(by omega);have q16:0 < A0.size:=(by have:(0:Int) < (A0.size:Int):=od;omega);have hx16:∀ h:0 < A0.size,((A0[0]'h).toNat:Int)=bt A0 0:=bt_at A0 0;clear p16;have qi16:(0 < (A0.size:Int))=True:=eq_true (od);replace q16:=eq_true q16;go_wp2
      repeat (go_quiet (fail);try go_wp2)
      go_ret;exact ⟨er,tb HB⟩
     ·rw [if_neg c15] at H;exact absurd H (by simp)
 ·replace c3:=Bool.eq_false_iff.mpr c3;subst c3
  have H1:(some (-1))=some r:=by rw [if_neg (show ¬ (false=true) by decide)] at H;exact H
  clear H;have H:=H1;clear H1;obtain rfl:=os H
  go_enter Try.func120,Try.ntmps120
  go_wp2_with (first|((with_reducible refine gate_dst (N:=1) rfl ?_);refine bx (N:=1) (cs:=#[.int .i64 A3,.string A0]) (t:=29) ?_;intro A6 hg w18 hbox hb;have A1:=Aside0.mk (hbox);have A7:=bz0 hg HB;have A5:=bz0 hg HB;replace HB:=bs0 HB hb;clear hb hbox hg;have hcz19__:=c2_ A1;have hfz19__:=f_ A1)|(go_at_call 105;(try simp only [i64_w,i32_w]);(with_reducible refine (spec_TableOk.calls k A3 A0 false _ A2.out).mono ?_);rintro e w20 ⟨rfl,hb⟩;replace A1:=bb A1 hb;replace HB:=bs1 HB hb A5;(try clear hb);(try clear hb2);(try clear hk);(try clear hi)))
  repeat (go_quiet (first|((with_reducible refine gate_dst (N:=1) rfl ?_);refine bx (N:=1) (cs:=#[.int .i64 A3,.string A0]) (t:=29) ?_;intro A6 hg w18 hbox hb;have A1:=Aside0.mk (hbox);have A7:=bz0 hg HB;have A5:=bz0 hg HB;replace HB:=bs0 HB hb;clear hb hbox hg;have hcz19__:=c2_ A1;have hfz19__:=f_ A1)|(go_at_call 105;(try simp only [i64_w,i32_w]);(with_reducible refine (spec_TableOk.calls k A3 A0 false _ A2.out).mono ?_);rintro e w20 ⟨rfl,hb⟩;replace A1:=bb A1 hb;replace HB:=bs1 HB hb A5;(try clear hb);(try clear hb2);(try clear hk);(try clear hi)));try go_wp2_with (first|((with_reducible refine gate_dst (N:=1) rfl ?_);refine bx (N:=1) (cs:=#[.int .i64 A3,.string A0]) (t:=29) ?_;intro A6 hg w18 hbox hb;have A1:=Aside0.mk (hbox);have A7:=bz0 hg HB;have A5:=bz0 hg HB;replace HB:=bs0 HB hb;clear hb hbox hg;have hcz19__:=c2_ A1;have hfz19__:=f_ A1)|(go_at_call 105;(try simp only [i64_w,i32_w]);(with_reducible refine (spec_TableOk.calls k A3 A0 false _ A2.out).mono ?_);rintro e w20 ⟨rfl,hb⟩;replace A1:=bb A1 hb;replace HB:=bs1 HB hb A5;(try clear hb);(try clear hb2);(try clear hk);(try clear hi))))
  go_ret;exact ⟨er,tb HB⟩
def spec_l10Win.f:Nat→List Bool→Int→ByteArray→Int→List Int→Option ((List (S108)))
 | 0,_,_,_,_,_=>none
 | k + 1,l0,a1_0,a1_1,a2,l3=>(spec_Known.f k a1_0 a1_1).bind fun t102=>(if t102 ≥ 0 then (some (([]:List (S108)))) else ((spec_Half.f k a1_0 a1_1 0).bind fun bt106=>((spec_Half.f k a1_0 a1_1 1).bind fun bt110=>(if 0 < (l0.length:Int) then (if ((rdOf false l0 0) == (a2 == 0))=true then ((spec_Choose.f k l0 a1_0 a1_1).bind fun bt115=>(if bt115.1=1 then ((some (([]:List Int):List Int)).bind fun y118=>(if y118.length + l3.length < 17592186044416 then ((some (([(⟨(y118 ++ l3),bt115.1⟩:S108)]:List (S108)):List (S108))).bind fun y125=>(if 1≤(l0.length:Int) then ((some (([]:List Int):List Int)).bind fun y129=>(if y129.length + l3.length < 17592186044416 then ((some (y129 ++ l3:List Int)).bind fun y132=>((some (([bt115.1]:List Int):List Int)).bind fun y135=>(if y132.length + y135.length < 17592186044416 then ((spec_l10Win.f k (l0.drop 1) bt110.1 bt110.2.1 a2 (y132 ++ y135)).bind fun A1=>(if y125.length + A1.length < 4398046511104 then (some (y125 ++ A1)) else (none))) else (none)))) else (none))) else (none))) else (none))) else ((some (([]:List Int):List Int)).bind fun y147=>(if y147.length + l3.length < 17592186044416 then ((some (([(⟨(y147 ++ l3),bt115.1⟩:S108)]:List (S108)):List (S108))).bind fun y154=>(if 1≤(l0.length:Int) then ((some (([]:List Int):List Int)).bind fun y158=>(if y158.length + l3.length < 17592186044416 then ((some (y158 ++ l3:List Int)).bind fun y161=>((some (([bt115.1]:List Int):List Int)).bind fun y164=>(if y161.length + y164.length < 17592186044416 then ((spec_l10Win.f k (l0.drop 1) bt106.1 bt106.2.1 a2 (y161 ++ y164)).bind fun A2=>(if y154.length + A2.length < 4398046511104 then (some (y154 ++ A2)) else (none))) else (none)))) else (none))) else (none))) else (none))))) else (if 1≤(l0.length:Int) then ((some (([]:List Int):List Int)).bind fun y177=>(if y177.length + l3.length < 17592186044416 then ((some (y177 ++ l3:List Int)).bind fun y180=>((some (([0]:List Int):List Int)).bind fun y183=>(if y180.length + y183.length < 17592186044416 then ((spec_l10Win.f k (l0.drop 1) bt106.1 bt106.2.1 a2 (y180 ++ y183)).bind fun A4=>((some (([]:List Int):List Int)).bind fun y193=>(if y193.length + l3.length < 17592186044416 then ((some (y193 ++ l3:List Int)).bind fun y196=>((some (([1]:List Int):List Int)).bind fun y199=>(if y196.length + y199.length < 17592186044416 then ((spec_l10Win.f k (l0.drop 1) bt110.1 bt110.2.1 a2 (y196 ++ y199)).bind fun A5=>(if A4.length + A5.length < 4398046511104 then (some (A4 ++ A5)) else (none))) else (none)))) else (none)))) else (none)))) else (none))) else (none))) else (none)))))
def spec_l10Win.T11:Bool × List (List Nat × List Nat):=(true,[([],[]),([0],[0]),([],[]),([2],[2]),([],[]),([],[]),([],[]),([],[]),([6,7],[6,7]),([],[]),([9],[9]),([8,10,8],[8,10]),([3,4,5,11,11],[3,4,5,11]),([1,12,12],[1,12]),([13,13,0,1,2,3,4,5,6,7,8,9,10,11,12,13],[13])])
def spec_l10Win.B11:List Nat:=[0,1,0,4,0,0,0,0,192,0,512,1984,4092,8191,16383]
theorem spec_l10Win.tab11:rtab .any (opsOf Try.f89 11)=spec_l10Win.T11:=by kernel_rfl
theorem spec_l10Win.bits11:waitsOk spec_l10Win.T11.2 spec_l10Win.B11=true:=by kernel_rfl
def spec_l10Win.T12:Bool × List (List Nat × List Nat):=(true,[([],[]),([0],[0]),([],[]),([],[]),([],[]),([],[]),([4,5],[4,5]),([],[]),([6,7,6],[6,7]),([1,2,3,8,8],[1,2,3,8]),([9,9,0,1,2,3,4,5,6,7,8,9],[9])])
def spec_l10Win.B12:List Nat:=[0,1,0,0,0,0,48,0,240,511,1023]
theorem spec_l10Win.tab12:rtab .any (opsOf Try.f89 12)=spec_l10Win.T12:=by kernel_rfl
theorem spec_l10Win.bits12:waitsOk spec_l10Win.T12.2 spec_l10Win.B12=true:=by kernel_rfl
def spec_l10Win.T13:Bool × List (List Nat × List Nat):=(true,[([],[]),([],[]),([1],[1]),([],[]),([],[]),([],[]),([],[]),([5,6],[5,6]),([],[]),([7,8,7],[7,8]),([2,3,4,9,9],[2,3,4,9]),([0,10,10],[0,10]),([11,11,0,1,2,3,4,5,6,7,8,9,10,11],[11])])
def spec_l10Win.B13:List Nat:=[0,0,2,0,0,0,0,96,0,480,1022,2047,4095]
theorem spec_l10Win.tab13:rtab .any (opsOf Try.f89 13)=spec_l10Win.T13:=by kernel_rfl
theorem spec_l10Win.bits13:waitsOk spec_l10Win.T13.2 spec_l10Win.B13=true:=by kernel_rfl
abbrev spec_l10Win.Ok (k:Nat):Prop:=∀ (A0:Option Addr) (c0:Nat) (l0:List Bool) (a1_0:Int) (a1_1:ByteArray) (a2:Int) (A3:Option Addr) (c3:Nat) (l3:List Int) (r:List (S108)) (w:World) (hr0:Kd.C Kd.bool w A0 l0.length l0) (hc0:l0.length≤c0) (hr3:Kd.C (Kd.int .i64) w A3 l3.length l3) (hc3:l3.length≤c3) (h:spec_l10Win.f k l0 a1_0 a1_1 a2 l3=some r),Calls Try.prog 89 #[.slice A0 l0.length c0,.agg #[.int .i64 a1_0,.string a1_1],.int .i64 a2,.slice A3 l3.length c3] w fun e w'=>∃ v0_:Value,e = .returned (v0_)∧Kd.N k108 108 w' w.heap.size (fun k_=>(w.heap.size≤k_)) v0_ r∧Below w.heap.size w w'
end Go.Proofs.Ytlpfmhikahlcoaa.G
