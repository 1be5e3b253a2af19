-- texts of this session, merged by a program of it (wip/gen/pack.py)
import Derived.Test.YtlpfmhikahlcoaaKFnExactWin2
namespace Go.Proofs.Ytlpfmhikahlcoaa.G
open Go.Proofs.Ytlpfmhikahlcoaa.Sh Go.RowKit Go.Proofs.YtlpfmhikahlcoaaW.PrintWords Go.Proofs.YtlpfmhikahlcoaaW.PrintLast Go.Proofs.YtlpfmhikahlcoaaW.PrintMore
attribute [local go_sem] max2_int min2_int max_two min_two max_three min_three max_four min_four
set_option linter.unusedVariables false
set_option linter.unusedSimpArgs false
def impl_decide.f:Nat→List Bool→Int→ByteArray→Option (Int)
 | 0,_,_,_=>none
 | k + 1,l0,a1_0,a1_1=>(impl_Table_known.f a1_0 a1_1).bind fun A5=>(if A5 ≥ 0 then (some A5) else (if 1≤(l0.length:Int) then ((impl_Table_half.f a1_0 a1_1 0).bind fun bt104=>((impl_decide.f k (l0.drop 1) bt104.1 bt104.2).bind fun A2=>(if 0 < (l0.length:Int) then (if ((rdOf false l0 0) == (A2 == 0))=true then (some A2) else ((impl_Table_half.f a1_0 a1_1 1).bind fun bt109=>((impl_decide.f k (l0.drop 1) bt109.1 bt109.2).bind fun A6=>(some A6)))) else (none)))) else (none)))
set_option maxHeartbeats 80000000 in
set_option maxRecDepth 100000 in
theorem impl_decide.calls (k:Nat):∀ (A0:Option Addr) (c0:Nat) (l0:List Bool) (a1_0:Int) (a1_1:ByteArray) (r:Int) (w:World) (hr0:Kd.C Kd.bool w A0 l0.length l0) (hc0:l0.length≤c0) (h:impl_decide.f k l0 a1_0 a1_1=some r),
  Calls Try.prog 60 #[.slice A0 l0.length c0,.agg #[.int .i64 a1_0,.string a1_1]] w fun e w'=>e = .returned (.int .i64 r)∧Below w.heap.size w w':=by
 induction k using Nat.strongRecOn with
  | _ k ih =>
 intro A0 c0 l0 a1_0 a1_1 r w hr0 hc0 h
 cases k with
  | zero=>exact absurd h (by simp [impl_decide.f])
  | succ k =>
 simp only [impl_decide.f] at h;have hu29:=Try.underlying29;have HR0:=Aside0.mk hr0;have HC0:=Aside0.mk hc0;clear hr0 hc0;have HB:=Aside0.mk (Below.refl w.heap.size w);have H:((impl_Table_known.f a1_0 a1_1).bind fun A5=>(if A5 ≥ 0 then (some A5) else (if 1≤(l0.length:Int) then ((impl_Table_half.f a1_0 a1_1 0).bind fun bt104=>((impl_decide.f k (l0.drop 1) bt104.1 bt104.2).bind fun A2=>(if 0 < (l0.length:Int) then (if ((rdOf false l0 0) == (A2 == 0))=true then (some A2) else ((impl_Table_half.f a1_0 a1_1 1).bind fun bt109=>((impl_decide.f k (l0.drop 1) bt109.1 bt109.2).bind fun A6=>(some A6)))) else (none)))) else (none))))=some r:=h;clear h;replace H:=ob H;obtain ⟨A5,A30,H⟩:=H;replace H:(if A5 ≥ 0 then (some A5) else (if 1≤(l0.length:Int) then ((impl_Table_half.f a1_0 a1_1 0).bind fun bt104=>((impl_decide.f k (l0.drop 1) bt104.1 bt104.2).bind fun A2=>(if 0 < (l0.length:Int) then (if ((rdOf false l0 0) == (A2 == 0))=true then (some A2) else ((impl_Table_half.f a1_0 a1_1 1).bind fun bt109=>((impl_decide.f k (l0.drop 1) bt109.1 bt109.2).bind fun A6=>(some A6)))) else (none)))) else (none)))=some r:=H;have A3:=Aside0.mk A30;clear A30
 by_cases c4:A5 ≥ 0
 ·rw [if_pos c4] at H;have c4b0:decide (0≤A5)=true:=decide_eq_true c4;clear c4;obtain rfl:=os H
  go_enter Try.func60,Try.ntmps60
  go_wp2_with (first|((with_reducible refine gate_dst (N:=3) rfl ?_);refine bx (N:=3) (cs:=#[.int .i64 a1_0,.string a1_1]) (t:=29) ?_;intro A7 hg w5 hbox hb;have A1:=Aside0.mk (hbox);have Ad:=bz0 hg HB;have A4:=bz0 hg HB;replace HB:=bs0 HB hb;clear hb hbox hg;have hcz6__:=c2_ A1;have hfz6__:=f_ A1)|((with_reducible refine gate_callee (f:=107) rfl ?_);refine goesL_ (some 8) rfl rfl Try.func107 (by kernel_rfl) rfl #[.agg #[.int .i64 a1_0,.string a1_1]] rfl ml ?_;(with_reducible refine (impl_Table_known.calls a1_0 a1_1 A5 _ A3.out).mono ?_);rintro e w7 ⟨rfl,hb⟩;refine ⟨_,rfl,?_⟩;replace A1:=bb A1 hb;replace HB:=bs1 HB hb A4;(try clear hb);(try clear hb2);(try clear hk);(try clear hi)));go_ret;exact ⟨er,tb HB⟩
 ·rw [if_neg c4] at H;have c4b0:decide (0≤A5)=false:=decide_eq_false c4;clear c4
  by_cases c8:1≤(l0.length:Int)
  ·rw [if_pos c8] at H;have c8b0:=eq_true c8;have c8b1:decide (1≤(l0.length:Int))=true:=decide_eq_true c8;clear c8;replace H:=ob H;obtain ⟨⟨A8,Aa⟩,A90,H⟩:=H;replace H:((impl_decide.f k (l0.drop 1) A8 Aa).bind fun A2=>(if 0 < (l0.length:Int) then (if ((rdOf false l0 0) == (A2 == 0))=true then (some A2) else ((impl_Table_half.f a1_0 a1_1 1).bind fun bt109=>((impl_decide.f k (l0.drop 1) bt109.1 bt109.2).bind fun A6=>(some A6)))) else (none)))=some r:=H;have A9:=Aside0.mk A90;clear A90;replace H:=ob H;obtain ⟨A2,A100,H⟩:=H;replace H:(if 0 < (l0.length:Int) then (if ((rdOf false l0 0) == (A2 == 0))=true then (some A2) else ((impl_Table_half.f a1_0 a1_1 1).bind fun bt109=>((impl_decide.f k (l0.drop 1) bt109.1 bt109.2).bind fun A6=>(some A6)))) else (none))=some r:=H;have A10:=Aside0.mk A100;clear A100
   by_cases c11:0 < (l0.length:Int)
   ·rw [if_pos c11] at H;have c11b0:decide (0 < (l0.length:Int))=true:=decide_eq_true c11;have c11b1:decide (0 < l0.length)=true:=decide_eq_true (by omega);clear c11
    by_cases c12:((rdOf false l0 0) == (A2 == 0))=true
    ·rw [if_pos c12] at H;have c12b0:((rdOf false l0 0) == (A2 == 0))=true:=c12
     (try (have c12b1:decide ((rdOf false l0 0)=(A2 == 0))=true:=by simpa using c12))
     (try (have c12b2:((rdOf false l0 0) == (A2 == 0))=true:=by simpa using c12))
     clear c12;obtain rfl:=os H
     go_enter Try.func60,Try.ntmps60
     try go_wp2_with (first|((with_reducible refine gate_dst (N:=3) rfl ?_);refine bx (N:=3) (cs:=#[.int .i64 a1_0,.string a1_1]) (t:=29) ?_;intro A7 hg w13 hbox hb;have A1:=Aside0.mk (hbox);have Ad:=bz0 hg HB;have A4:=bz0 hg HB;replace HB:=bs0 HB hb;clear hb hbox hg;have hcz14__:=c2_ A1;have hfz14__:=f_ A1)|((with_reducible refine gate_callee (f:=107) rfl ?_);refine goesL_ (some 8) rfl rfl Try.func107 (by kernel_rfl) rfl #[.agg #[.int .i64 a1_0,.string a1_1]] rfl ml ?_;(with_reducible refine (impl_Table_known.calls a1_0 a1_1 A5 _ A3.out).mono ?_);rintro e w15 ⟨rfl,hb⟩;refine ⟨_,rfl,?_⟩;replace A1:=bb A1 hb;replace HB:=bs1 HB hb A4;(try clear hb);(try clear hb2);(try clear hk);(try clear hi)))
     replace A1:=Aside0.mk (blk_drew A1.out);replace HB:=Aside0.mk (below_drew1 HB.out);obtain ⟨i017,hi017,_,hsz17,_⟩:=info_parts info4;obtain ⟨A17,hcut17,hA17,hC17⟩:=print_drop_of (P:=Try.prog) Value.bool false 22 4 .i64 Try.underlying22 hi017 hsz17 A0 c0 l0 1 (by omega) (od) HC0.out;have HR103:=Aside0.mk (Kd.C_of_reads (h1:=fun _=>rfl) (hA17 _ (Kd.reads_of_C HR0.out)));have HC103:=Aside0.mk hC17;clear hA17 hC17 hi017 hsz17;refine start_ (n:=6) (S:=fun w'=>w'.cell? ⟨A7,0,none⟩=some (.int .i64 a1_0)∧w'.cell? ⟨A7,1,none⟩=some (.string a1_1)) (ds:=[]) (tf 0 6) (by kernel_rfl) rfl rfl ⟨(blk_cell A1.out 0).trans rfl,(blk_cell A1.out 1).trans rfl⟩ (fun hHeld=>?_);generalize w15.drew=w16 at A1 HB HR103 hHeld ⊢;refine pure_ (i:=0) (N:=some 12) (v:=?_) (a':=?_) (tf 1 5) rfl rfl (by kernel_rfl) (fun _ _ _ h=>h) (Or.inl ⟨by rfl,?_⟩) ?_ ?_;rotate_left
     ·intro w';go_simp;with_reducible rfl
     rotate_left
     ·simp only [Act.put,s1,s2,s3,i64_w,i32_w];rfl
     refine pure_ (i:=1) (N:=some 13) (v:=?_) (a':=?_) (tf 2 4) rfl rfl (by kernel_rfl) (fun _ _ _ h=>h) (Or.inl ⟨by rfl,?_⟩) ?_ ?_;rotate_left
     ·intro w';go_simp;with_reducible rfl
     rotate_left
     ·simp only [Act.put,s1,s2,s3,i64_w,i32_w];rfl
     refine take_ (i:=2) (N:=some 14) (v:=?_) (a':=?_) (tf 3 3) rfl rfl (by kernel_rfl) (fun _ _ _ h=>h) (Or.inl ⟨by rfl,?_⟩) hHeld ?_ ?_;rotate_left
     ·rintro w' ⟨s0,s1⟩;go_simp;with_reducible rfl
     rotate_left
     ·simp only [Act.put,s1,s2,s3,i64_w,i32_w];rfl
     refine one_ (i:=3) (N:=some 15) (tf 4 2) rfl rfl (by kernel_rfl) (by decide) (fun K hK=>?_);refine goes_ Try.func108 (by kernel_rfl) rfl #[.agg #[.int .i64 a1_0,.string a1_1],.int .i64 0] (by rfl) rfl rfl ml ?_
     with_reducible refine (impl_Table_half.calls a1_0 a1_1 0 A8 Aa _ A9.out).mono ?_
     rintro e w18 ⟨rfl,hb⟩;refine ⟨_,rfl,?_⟩;replace A1:=bb A1 hb;replace HB:=bs1 HB hb A4;(try clear hb);(try clear hb2);(try clear hk);(try clear hi);refine hK.out _ _ ⟨(blk_cell A1.out 0).trans rfl,(blk_cell A1.out 1).trans rfl⟩ (fun hHeld=>?_);clear hK K;refine norm_ (a':=?_) ?_ ?_;rotate_left
     ·show Act.put _ (some 15) _=_
      simp only [Act.put,s1,s2,s3,i64_w,i32_w];rfl
     refine one_ (i:=4) (N:=some 16) (tf 5 1) rfl rfl (by kernel_rfl) (by decide) (fun K hK=>?_);refine goes_ Try.func60 (by kernel_rfl) rfl #[.slice A17 (l0.drop 1).length (c0 - 1),.agg #[.int .i64 A8,.string Aa]] (by rfl) rfl rfl (by (try simp only [List.map_toArray,List.map_cons,List.map_nil]);first|done|(rw [show (l0.drop 1).length=(l0.length - 1) from List.length_drop] <;> rfl)|rfl|(simp only [List.length_drop,List.length_take];rfl)) ?_
     with_reducible refine (ih k (by omega) _ _ (l0.drop 1) A8 Aa A2 _ ?side1 ?side2 A10.out).mono ?_
     (case side1=>exact cw (Kd.C_below HR103.out HB.out))
     (case side2=>exact HC103.out)
     rintro e w19 ⟨rfl,hb⟩;refine ⟨_,rfl,?_⟩;replace A1:=bb A1 hb;replace HB:=bs1 HB hb A4;(try clear hb);(try clear hb2);(try clear hk);(try clear hi);refine hK.out _ _ ⟨(blk_cell A1.out 0).trans rfl,(blk_cell A1.out 1).trans rfl⟩ (fun hHeld=>?_);clear hK K;refine norm_ (a':=?_) ?_ ?_;rotate_left
     ·show Act.put _ (some 16) _=_
      simp only [Act.put,s1,s2,s3,i64_w,i32_w];rfl
     refine pure_ (i:=5) (N:=some 6) (v:=?_) (a':=?_) (tf 6 0) rfl rfl (by kernel_rfl) (fun _ _ _ h=>h) (Or.inl ⟨by rfl,?_⟩) ?_ ?_;rotate_left
     ·intro w';go_simp;with_reducible rfl
     rotate_left
     ·simp only [Act.put,s1,s2,s3,i64_w,i32_w];rfl
     refine done_ (by kernel_rfl) ?_;have p107:0≤(0:Int):=(by omega);have q107:0 < (l0.length:Int):=od;obtain ⟨ad107,e107,hx107_0⟩:=Kd.at_bool HR0.out 0 p107 q107;cases e107;have qi107:(0 < l0.length)=True:=eq_true (by omega)
     (try rw [show ((0:Int)).toNat=0 from rfl] at hx107_0)
     (try rw [Addr.add_zero'] at hx107_0)
     replace hx107_0:=ct HB hx107_0;replace p107:=eq_true p107;replace q107:=eq_true q107
     try go_wp2
     go_ret;exact ⟨by first|exact er|(simp [errW_none,errW_some,show ¬ l0=[] from by intro h_;rw [h_] at c11b0;simp at c11b0];done)|(simp [*,show ¬ l0=[] from by intro h_;rw [h_] at c11b0;simp at c11b0];done)|(simp [errW_none,errW_some,show ¬ l0=[] from by intro h_;rw [h_] at c11b0;simp at c11b0] <;> rfl),tb HB⟩
    ·rw [if_neg c12] at H
     have c12b0:((rdOf false l0 0) == (A2 == 0))=false:=by simpa using c12
     (try (have c12b1:decide ((rdOf false l0 0)=(A2 == 0))=false:=by simpa using c12))
     (try (have c12b2:((rdOf false l0 0) == (A2 == 0))=false:=by simpa using c12))
     (try (have c12b3:¬ ((rdOf false l0 0)=(A2 == 0)):=by simpa using c12))
     clear c12;have c20b0:=eq_true (od:1≤(l0.length:Int));replace H:=ob H;obtain ⟨⟨Ab,Ac⟩,A210,H⟩:=H;replace H:((impl_decide.f k (l0.drop 1) Ab Ac).bind fun A6=>(some A6))=some r:=H;have A21:=Aside0.mk A210;clear A210;replace H:=ob H;obtain ⟨A6,A220,H⟩:=H;replace H:(some A6)=some r:=H;have A22:=Aside0.mk A220;clear A220;obtain rfl:=os H
     go_enter Try.func60,Try.ntmps60
     try go_wp2_with (first|((with_reducible refine gate_dst (N:=3) rfl ?_);refine bx (N:=3) (cs:=#[.int .i64 a1_0,.string a1_1]) (t:=29) ?_;intro A7 hg w23 hbox hb;have A1:=Aside0.mk (hbox);have Ad:=bz0 hg HB;have A4:=bz0 hg HB;replace HB:=bs0 HB hb;clear hb hbox hg;have hcz24__:=c2_ A1;have hfz24__:=f_ A1)|((with_reducible refine gate_callee (f:=107) rfl ?_);refine goesL_ (some 8) rfl rfl Try.func107 (by kernel_rfl) rfl #[.agg #[.int .i64 a1_0,.string a1_1]] rfl ml ?_;(with_reducible refine (impl_Table_known.calls a1_0 a1_1 A5 _ A3.out).mono ?_);rintro e w25 ⟨rfl,hb⟩;refine ⟨_,rfl,?_⟩;replace A1:=bb A1 hb;replace HB:=bs1 HB hb A4;(try clear hb);(try clear hb2);(try clear hk);(try clear hi)))
     replace A1:=Aside0.mk (blk_drew A1.out);replace HB:=Aside0.mk (below_drew1 HB.out);obtain ⟨i027,hi027,_,hsz27,_⟩:=info_parts info4;obtain ⟨A27,hcut27,hA27,hC27⟩:=print_drop_of (P:=Try.prog) Value.bool false 22 4 .i64 Try.underlying22 hi027 hsz27 A0 c0 l0 1 (by omega) (od) HC0.out;have HR103:=Aside0.mk (Kd.C_of_reads (h1:=fun _=>rfl) (hA27 _ (Kd.reads_of_C HR0.out)));have HC103:=Aside0.mk hC27;clear hA27 hC27 hi027 hsz27;refine start_ (n:=6) (S:=fun w'=>w'.cell? ⟨A7,0,none⟩=some (.int .i64 a1_0)∧w'.cell? ⟨A7,1,none⟩=some (.string a1_1)) (ds:=[]) (tf 0 6) (by kernel_rfl) rfl rfl ⟨(blk_cell A1.out 0).trans rfl,(blk_cell A1.out 1).trans rfl⟩ (fun hHeld=>?_);generalize w25.drew=w26 at A1 HB HR103 hHeld ⊢;refine pure_ (i:=0) (N:=some 12) (v:=?_) (a':=?_) (tf 1 5) rfl rfl (by kernel_rfl) (fun _ _ _ h=>h) (Or.inl ⟨by rfl,?_⟩) ?_ ?_;rotate_left
     ·intro w';go_simp;with_reducible rfl
     rotate_left
     ·simp only [Act.put,s1,s2,s3,i64_w,i32_w];rfl
     refine pure_ (i:=1) (N:=some 13) (v:=?_) (a':=?_) (tf 2 4) rfl rfl (by kernel_rfl) (fun _ _ _ h=>h) (Or.inl ⟨by rfl,?_⟩) ?_ ?_;rotate_left
     ·intro w';go_simp;with_reducible rfl
     rotate_left
     ·simp only [Act.put,s1,s2,s3,i64_w,i32_w];rfl
     refine take_ (i:=2) (N:=some 14) (v:=?_) (a':=?_) (tf 3 3) rfl rfl (by kernel_rfl) (fun _ _ _ h=>h) (Or.inl ⟨by rfl,?_⟩) hHeld ?_ ?_;rotate_left
     ·rintro w' ⟨s0,s1⟩;go_simp;with_reducible rfl
     rotate_left
     ·simp only [Act.put,s1,s2,s3,i64_w,i32_w];rfl
     refine one_ (i:=3) (N:=some 15) (tf 4 2) rfl rfl (by kernel_rfl) (by decide) (fun K hK=>?_);refine goes_ Try.func108 (by kernel_rfl) rfl #[.agg #[.int .i64 a1_0,.string a1_1],.int .i64 0] (by rfl) rfl rfl ml ?_
     with_reducible refine (impl_Table_half.calls a1_0 a1_1 0 A8 Aa _ A9.out).mono ?_
     rintro e w28 ⟨rfl,hb⟩;refine ⟨_,rfl,?_⟩;replace A1:=bb A1 hb;replace HB:=bs1 HB hb A4;(try clear hb);(try clear hb2);(try clear hk);(try clear hi);refine hK.out _ _ ⟨(blk_cell A1.out 0).trans rfl,(blk_cell A1.out 1).trans rfl⟩ (fun hHeld=>?_);clear hK K;refine norm_ (a':=?_) ?_ ?_;rotate_left
     ·show Act.put _ (some 15) _=_
      simp only [Act.put,s1,s2,s3,i64_w,i32_w];rfl
     refine one_ (i:=4) (N:=some 16) (tf 5 1) rfl rfl (by kernel_rfl) (by decide) (fun K hK=>?_);refine goes_ Try.func60 (by kernel_rfl) rfl #[.slice A27 (l0.drop 1).length (c0 - 1),.agg #[.int .i64 A8,.string Aa]] (by rfl) rfl rfl (by (try simp only [List.map_toArray,List.map_cons,List.map_nil]);first|done|(rw [show (l0.drop 1).length=(l0.length - 1) from List.length_drop] <;> rfl)|rfl|(simp only [List.length_drop,List.length_take];rfl)) ?_
     with_reducible refine (ih k (by omega) _ _ (l0.drop 1) A8 Aa A2 _ ?side1 ?side2 A10.out).mono ?_
     (case side1=>exact cw (Kd.C_below HR103.out HB.out))
     (case side2=>exact HC103.out)
     rintro e w29 ⟨rfl,hb⟩;refine ⟨_,rfl,?_⟩;replace A1:=bb A1 hb;replace HB:=bs1 HB hb A4;(try clear hb);(try clear hb2);(try clear hk);(try clear hi);refine hK.out _ _ ⟨(blk_cell A1.out 0).trans rfl,(blk_cell A1.out 1).trans rfl⟩ (fun hHeld=>?_);clear hK K;refine norm_ (a':=?_) ?_ ?_;rotate_left
     ·show Act.put _ (some 16) _=_
      simp only [Act.put,s1,s2,s3,i64_w,i32_w];rfl
     refine pure_ (i:=5) (N:=some 6) (v:=?_) (a':=?_) (tf 6 0) rfl rfl (by kernel_rfl) (fun _ _ _ h=>h) (Or.inl ⟨by rfl,?_⟩) ?_ ?_;rotate_left
     ·intro w';go_simp;with_reducible rfl
     rotate_left
     ·simp only [Act.put,s1,s2,s3,i64_w,i32_w];rfl
     refine done_ (by kernel_rfl) ?_;have p107:0≤(0:Int):=(by omega);have q107:0 < (l0.length:Int):=od;obtain ⟨ad107,e107,hx107_0⟩:=Kd.at_bool HR0.out 0 p107 q107;cases e107;have qi107:(0 < l0.length)=True:=eq_true (by omega)
     (try rw [show ((0:Int)).toNat=0 from rfl] at hx107_0)
     (try rw [Addr.add_zero'] at hx107_0)
     replace hx107_0:=ct HB hx107_0;replace p107:=eq_true p107;replace q107:=eq_true q107
     try go_wp2
     replace A1:=Aside0.mk (blk_drew A1.out);replace HB:=Aside0.mk (below_drew1 HB.out);obtain ⟨i031,hi031,_,hsz31,_⟩:=info_parts info4;obtain ⟨A31,hcut31,hA31,hC31⟩:=print_drop_of (P:=Try.prog) Value.bool false 22 4 .i64 Try.underlying22 hi031 hsz31 (some ad107) c0 l0 1 (by omega) (od) HC0.out
     obtain rfl:A27=A31:=by have e_:=(hcut27 w).symm.trans (hcut31 w);injection e_ with e_;injection e_
     have HR108:=Aside0.mk (Kd.C_of_reads (h1:=fun _=>rfl) (hA31 _ (Kd.reads_of_C HR0.out)));have HC108:=Aside0.mk hC31;clear hA31 hC31 hi031 hsz31;refine start_ (n:=6) (S:=fun w'=>w'.cell? ⟨A7,0,none⟩=some (.int .i64 a1_0)∧w'.cell? ⟨A7,1,none⟩=some (.string a1_1)) (ds:=[]) (tf 0 6) (by kernel_rfl) rfl rfl ⟨(blk_cell A1.out 0).trans rfl,(blk_cell A1.out 1).trans rfl⟩ (fun hHeld=>?_);generalize w29.drew=w30 at A1 HB HR108 hHeld ⊢;refine pure_ (i:=0) (N:=some 24) (v:=?_) (a':=?_) (tf 1 5) rfl rfl (by kernel_rfl) (fun _ _ _ h=>h) (Or.inl ⟨by rfl,?_⟩) ?_ ?_;rotate_left
     ·intro w';go_simp;with_reducible rfl
     rotate_left
     ·simp only [Act.put,s1,s2,s3,i64_w,i32_w];rfl
     refine pure_ (i:=1) (N:=some 25) (v:=?_) (a':=?_) (tf 2 4) rfl rfl (by kernel_rfl) (fun _ _ _ h=>h) (Or.inl ⟨by rfl,?_⟩) ?_ ?_;rotate_left
     ·intro w';go_simp;with_reducible rfl
     rotate_left
     ·simp only [Act.put,s1,s2,s3,i64_w,i32_w];rfl
     refine take_ (i:=2) (N:=some 26) (v:=?_) (a':=?_) (tf 3 3) rfl rfl (by kernel_rfl) (fun _ _ _ h=>h) (Or.inl ⟨by rfl,?_⟩) hHeld ?_ ?_;rotate_left
     ·rintro w' ⟨s0,s1⟩;go_simp;with_reducible rfl
     rotate_left
     ·simp only [Act.put,s1,s2,s3,i64_w,i32_w];rfl
     refine one_ (i:=3) (N:=some 27) (tf 4 2) rfl rfl (by kernel_rfl) (by decide) (fun K hK=>?_);refine goes_ Try.func108 (by kernel_rfl) rfl #[.agg #[.int .i64 a1_0,.string a1_1],.int .i64 1] (by rfl) rfl rfl ml ?_
     with_reducible refine (impl_Table_half.calls a1_0 a1_1 1 Ab Ac _ A21.out).mono ?_
     rintro e w32 ⟨rfl,hb⟩;refine ⟨_,rfl,?_⟩;replace A1:=bb A1 hb;replace HB:=bs1 HB hb A4;(try clear hb);(try clear hb2);(try clear hk);(try clear hi);refine hK.out _ _ ⟨(blk_cell A1.out 0).trans rfl,(blk_cell A1.out 1).trans rfl⟩ (fun hHeld=>?_);clear hK K;refine norm_ (a':=?_) ?_ ?_;rotate_left
     ·show Act.put _ (some 27) _=_
      simp only [Act.put,s1,s2,s3,i64_w,i32_w];rfl
     refine one_ (i:=4) (N:=some 28) (tf 5 1) rfl rfl (by kernel_rfl) (by decide) (fun K hK=>?_);refine goes_ Try.func60 (by kernel_rfl) rfl #[.slice A27 (l0.drop 1).length (c0 - 1),.agg #[.int .i64 Ab,.string Ac]] (by rfl) rfl rfl (by (try simp only [List.map_toArray,List.map_cons,List.map_nil]);first|done|(rw [show (l0.drop 1).length=(l0.length - 1) from List.length_drop] <;> rfl)|rfl|(simp only [List.length_drop,List.length_take];rfl)) ?_
     with_reducible refine (ih k (by omega) _ _ (l0.drop 1) Ab Ac A6 _ ?side1 ?side2 A22.out).mono ?_
     (case side1=>exact cw (Kd.C_below HR108.out HB.out))
     (case side2=>exact HC108.out)
     rintro e w33 ⟨rfl,hb⟩;refine ⟨_,rfl,?_⟩;replace A1:=bb A1 hb;replace HB:=bs1 HB hb A4;(try clear hb);(try clear hb2);(try clear hk);(try clear hi);refine hK.out _ _ ⟨(blk_cell A1.out 0).trans rfl,(blk_cell A1.out 1).trans rfl⟩ (fun hHeld=>?_);clear hK K;refine norm_ (a':=?_) ?_ ?_;rotate_left
     ·show Act.put _ (some 28) _=_
      simp only [Act.put,s1,s2,s3,i64_w,i32_w];rfl
     refine pure_ (i:=5) (N:=some 4) (v:=?_) (a':=?_) (tf 6 0) rfl rfl (by kernel_rfl) (fun _ _ _ h=>h) (Or.inl ⟨by rfl,?_⟩) ?_ ?_;rotate_left
     ·intro w';go_simp;with_reducible rfl
     rotate_left
     ·simp only [Act.put,s1,s2,s3,i64_w,i32_w];rfl
     refine done_ (by kernel_rfl) ?_
     try go_wp2
     go_ret;exact ⟨by first|exact er|(simp [errW_none,errW_some,show ¬ l0=[] from by intro h_;rw [h_] at c11b0;simp at c11b0];done)|(simp [*,show ¬ l0=[] from by intro h_;rw [h_] at c11b0;simp at c11b0];done)|(simp [errW_none,errW_some,show ¬ l0=[] from by intro h_;rw [h_] at c11b0;simp at c11b0] <;> rfl),tb HB⟩
   ·rw [if_neg c11] at H;exact absurd H (by simp)
  ·rw [if_neg c8] at H;exact absurd H (by simp)
end Go.Proofs.Ytlpfmhikahlcoaa.G
namespace Go.Proofs.Ytlpfmhikahlcoaa.G
open Go.Proofs.Ytlpfmhikahlcoaa.Sh
open Go.RowKit Go.Proofs.YtlpfmhikahlcoaaW.PrintWords Go.Proofs.YtlpfmhikahlcoaaW.PrintLast Go.Proofs.YtlpfmhikahlcoaaW.PrintMore
attribute [local go_sem] max2_int min2_int max_two min_two max_three min_three max_four min_four
set_option linter.unusedVariables false
set_option linter.unusedSimpArgs false
def impl_choose.f (k:Nat) (l0:List Bool) (a1_0:Int) (a1_1:ByteArray):Option (Int):=if 1≤(l0.length:Int) then ((impl_Table_half.f a1_0 a1_1 0).bind fun bt103=>((impl_decide.f k (l0.drop 1) bt103.1 bt103.2).bind fun A8=>((impl_decide.f k l0 a1_0 a1_1).bind fun A2=>((impl_bit.f (A8 != A2)).bind fun A3=>(some A3))))) else (none)
def impl_choose.T1:Bool × List (List Nat × List Nat):=(true,[([],[]),([0],[0]),([],[]),([2],[2]),([1,3,3],[1,3]),([],[]),([],[]),([5,6,4],[5,6]),([4,7],[4,7]),([8,7],[8]),([9,9,0,1,2,3,4,5,6,7,8,9],[9])])
def impl_choose.B1:List Nat:=[0,1,0,4,15,0,0,127,255,511,1023]
theorem impl_choose.tab1:rtab .any (opsOf Try.f62 1)=impl_choose.T1:=by kernel_rfl
theorem impl_choose.bits1:waitsOk impl_choose.T1.2 impl_choose.B1=true:=by kernel_rfl
set_option maxHeartbeats 8000000 in
set_option maxRecDepth 100000 in
theorem impl_choose.calls (k:Nat) (A0:Option Addr) (c0:Nat) (l0:List Bool) (a1_0:Int) (a1_1:ByteArray) (r:Int) (w:World) (hr0:Kd.C Kd.bool w A0 l0.length l0) (hc0:l0.length≤c0) (h:impl_choose.f k l0 a1_0 a1_1=some r) :
  Calls Try.prog 62 #[.slice A0 l0.length c0,.agg #[.int .i64 a1_0,.string a1_1]] w fun e w'=>e = .returned (.int .i64 r)∧Below w.heap.size w w':=by
 have hu29:=Try.underlying29;have HR0:=Aside0.mk hr0;have HC0:=Aside0.mk hc0;clear hr0 hc0;have HB:=Aside0.mk (Below.refl w.heap.size w);have H:(if 1≤(l0.length:Int) then ((impl_Table_half.f a1_0 a1_1 0).bind fun bt103=>((impl_decide.f k (l0.drop 1) bt103.1 bt103.2).bind fun A8=>((impl_decide.f k l0 a1_0 a1_1).bind fun A2=>((impl_bit.f (A8 != A2)).bind fun A3=>(some A3))))) else (none))=some r:=h;clear h
 by_cases c3:1≤(l0.length:Int)
 ·rw [if_pos c3] at H;have c3b0:=eq_true c3;have c3b1:decide (1≤(l0.length:Int))=true:=decide_eq_true c3;clear c3;replace H:=ob H;obtain ⟨⟨Aa,Ab⟩,A40,H⟩:=H;replace H:((impl_decide.f k (l0.drop 1) Aa Ab).bind fun A8=>((impl_decide.f k l0 a1_0 a1_1).bind fun A2=>((impl_bit.f (A8 != A2)).bind fun A3=>(some A3))))=some r:=H;have A4:=Aside0.mk A40;clear A40;replace H:=ob H;obtain ⟨A8,A50,H⟩:=H;replace H:((impl_decide.f k l0 a1_0 a1_1).bind fun A2=>((impl_bit.f (A8 != A2)).bind fun A3=>(some A3)))=some r:=H;have A5:=Aside0.mk A50;clear A50;replace H:=ob H;obtain ⟨A2,A60,H⟩:=H;replace H:((impl_bit.f (A8 != A2)).bind fun A3=>(some A3))=some r:=H;have A6:=Aside0.mk A60;clear A60;replace H:=ob H;obtain ⟨A3,A70,H⟩:=H;replace H:(some A3)=some r:=H;have A7:=Aside0.mk A70;clear A70;obtain rfl:=os H
  go_enter Try.func62,Try.ntmps62
  try go_wp2_with (first|((with_reducible refine gate_dst (N:=3) rfl ?_);refine bx (N:=3) (cs:=#[.int .i64 a1_0,.string a1_1]) (t:=29) ?_;intro A9 hg w8 hbox hb;have A1:=Aside0.mk (hbox);have GW101:=Aside0.mk ((by rw [hg];exact (below_size (tb HB)):w.heap.size≤A9));have GE101:=Aside0.mk ((by rw [hg];exact (below_size (tb HB)):w.heap.size≤A9));replace HB:=Aside0.mk (below_step (tb HB) hb);clear hb hbox hg))
  have n0_:=Aside0.mk (blk_drew A1.out);have n1_:=Aside0.mk (below_drew1 HB.out);clear A1;clear HB;have A1:=n0_;have HB:=n1_;clear n0_ n1_;obtain ⟨i010,hi010,_,hsz10,_⟩:=info_parts info4;obtain ⟨A10,hcut10,hA10,hC10⟩:=print_drop_of (P:=Try.prog) Value.bool false 22 4 .i64 Try.underlying22 hi010 hsz10 A0 c0 l0 1 (by omega) (od) HC0.out;have HR102:=Aside0.mk (Kd.C_of_reads (h1:=fun _=>rfl) (hA10 _ (Kd.reads_of_C HR0.out)));have HC102:=Aside0.mk hC10;clear hA10 hC10 hi010 hsz10;refine start_ (n:=11) (S:=fun w'=>w'.cell? ⟨A9,0,none⟩=some (.int .i64 a1_0)∧w'.cell? ⟨A9,1,none⟩=some (.string a1_1)) (ds:=[]) (tf 0 11) (by kernel_rfl) rfl rfl ⟨(blk_cell A1.out 0).trans rfl,(blk_cell A1.out 1).trans rfl⟩ (fun hHeld=>?_);refine with_tabW impl_choose.tab1 impl_choose.bits1 (fun HT_ HW_=>?_);generalize w8.drew=w9 at A1 HB HR102 hHeld ⊢;refine pure_ (i:=0) (N:=some 5) (v:=?_) (a':=?_) (tf 1 10) rfl rfl (any_of HT_.out (by kernel_rfl)) (fun _ _ _ h=>h) (Or.inl ⟨by rfl,?_⟩) ?_ ?_;rotate_left
  ·intro w';go_simp;with_reducible rfl
  rotate_left
  ·simp only [Act.put,s1,s2,s3,i64_w,i32_w];rfl
  refine pure_ (i:=1) (N:=some 6) (v:=?_) (a':=?_) (tf 2 9) rfl rfl (any_of HT_.out (by kernel_rfl)) (fun _ _ _ h=>h) (Or.inl ⟨by rfl,?_⟩) ?_ ?_;rotate_left
  ·intro w';go_simp;with_reducible rfl
  rotate_left
  ·simp only [Act.put,s1,s2,s3,i64_w,i32_w];rfl
  refine pure_ (i:=5) (N:=some 10) (v:=?_) (a':=?_) #[true,true,false,false,false,true,false,false,false,false,false] rfl rfl (any_of HT_.out (by kernel_rfl)) (fun _ _ _ h=>h) (Or.inl ⟨by rfl,?_⟩) ?_ ?_;rotate_left
  ·intro w';go_simp;with_reducible rfl
  rotate_left
  ·simp only [Act.put,s1,s2,s3,i64_w,i32_w];rfl
  refine take_ (i:=2) (N:=some 7) (v:=?_) (a':=?_) #[true,true,true,false,false,true,false,false,false,false,false] rfl rfl (take_ofW HT_.out HW_.out (by kernel_rfl)) (fun _ _ _ h=>h) (Or.inl ⟨by rfl,?_⟩) hHeld ?_ ?_;rotate_left
  ·rintro w' ⟨s0,s1⟩;go_simp;with_reducible rfl
  rotate_left
  ·simp only [Act.put,s1,s2,s3,i64_w,i32_w];rfl
  refine take_ (i:=6) (N:=some 11) (v:=?_) (a':=?_) #[true,true,true,false,false,true,true,false,false,false,false] rfl rfl (take_ofW HT_.out HW_.out (by kernel_rfl)) (fun _ _ _ h=>h) (Or.inl ⟨by rfl,?_⟩) hHeld ?_ ?_;rotate_left
  ·rintro w' ⟨s0,s1⟩;go_simp;with_reducible rfl
  rotate_left
  ·simp only [Act.put,s1,s2,s3,i64_w,i32_w];rfl
  refine one_ (i:=3) (N:=some 8) #[true,true,true,true,false,true,true,false,false,false,false] rfl rfl (one_of HT_.out (by kernel_rfl)) (by decide) (fun K hK=>?_);refine goes_ Try.func108 (by kernel_rfl) rfl #[.agg #[.int .i64 a1_0,.string a1_1],.int .i64 0] (by rfl) rfl rfl ml ?_
  with_reducible refine (impl_Table_half.calls a1_0 a1_1 0 Aa Ab _ A4.out).mono ?_
  rintro e w11 ⟨rfl,hb⟩;refine ⟨_,rfl,?_⟩;have n0_:=Aside0.mk (blk_below (g:=A9) (o := .cells #[.int .i64 a1_0,.string a1_1] 29 (0,0)) (dr A1) hb);have n1_:=Aside0.mk (below_step (tb HB) hb);clear A1;clear HB;have A1:=n0_;have HB:=n1_;clear n0_ n1_;(try clear hb);(try clear hb2);(try clear hk);(try clear hi);refine hK.out _ _ ⟨(blk_cell A1.out 0).trans rfl,(blk_cell A1.out 1).trans rfl⟩ (fun hHeld=>?_);clear hK K;refine norm_ (a':=?_) ?_ ?_;rotate_left
  ·show Act.put _ (some 8) _=_
   simp only [Act.put,s1,s2,s3,i64_w,i32_w];rfl
  refine one_ (i:=4) (N:=some 9) (tf 7 4) rfl rfl (one_of HT_.out (by kernel_rfl)) (by decide) (fun K hK=>?_);refine goes_ Try.func60 (by kernel_rfl) rfl #[.slice A10 (l0.drop 1).length (c0 - 1),.agg #[.int .i64 Aa,.string Ab]] (by rfl) rfl rfl (by (try simp only [List.map_toArray,List.map_cons,List.map_nil]);first|done|(rw [show (l0.drop 1).length=(l0.length - 1) from List.length_drop] <;> rfl)|rfl|(simp only [List.length_drop,List.length_take];rfl)) ?_
  with_reducible refine (impl_decide.calls k _ _ (l0.drop 1) Aa Ab A8 _ ?side1 ?side2 A5.out).mono ?_
  (case side1=>exact cw (Kd.C_below HR102.out HB.out))
  (case side2=>exact HC102.out)
  rintro e w12 ⟨rfl,hb⟩;refine ⟨_,rfl,?_⟩;have n0_:=Aside0.mk (blk_below (g:=A9) (o := .cells #[.int .i64 a1_0,.string a1_1] 29 (0,0)) (dr A1) hb);have n1_:=Aside0.mk (below_step (tb HB) hb);clear A1;clear HB;have A1:=n0_;have HB:=n1_;clear n0_ n1_;(try clear hb);(try clear hb2);(try clear hk);(try clear hi);refine hK.out _ _ ⟨(blk_cell A1.out 0).trans rfl,(blk_cell A1.out 1).trans rfl⟩ (fun hHeld=>?_);clear hK K;refine norm_ (a':=?_) ?_ ?_;rotate_left
  ·show Act.put _ (some 9) _=_
   simp only [Act.put,s1,s2,s3,i64_w,i32_w];rfl
  refine one_ (i:=7) (N:=some 12) (tf 8 3) rfl rfl (one_of HT_.out (by kernel_rfl)) (by decide) (fun K hK=>?_);refine goes_ Try.func60 (by kernel_rfl) rfl #[.slice A0 l0.length c0,.agg #[.int .i64 a1_0,.string a1_1]] (by rfl) rfl rfl ml ?_
  with_reducible refine (impl_decide.calls k _ _ l0 a1_0 a1_1 A2 _ ?side1 ?side2 A6.out).mono ?_
  (case side1=>exact cw (Kd.C_below HR0.out HB.out))
  (case side2=>exact HC0.out)
  rintro e w13 ⟨rfl,hb⟩;refine ⟨_,rfl,?_⟩;have n0_:=Aside0.mk (blk_below (g:=A9) (o := .cells #[.int .i64 a1_0,.string a1_1] 29 (0,0)) (dr A1) hb);have n1_:=Aside0.mk (below_step (tb HB) hb);clear A1;clear HB;have A1:=n0_;have HB:=n1_;clear n0_ n1_;(try clear hb);(try clear hb2);(try clear hk);(try clear hi);refine hK.out _ _ ⟨(blk_cell A1.out 0).trans rfl,(blk_cell A1.out 1).trans rfl⟩ (fun hHeld=>?_);clear hK K;refine norm_ (a':=?_) ?_ ?_;rotate_left
  ·show Act.put _ (some 12) _=_
   simp only [Act.put,s1,s2,s3,i64_w,i32_w];rfl
  refine pure_ (i:=8) (N:=some 13) (v:=?_) (a':=?_) (tf 9 2) rfl rfl (any_of HT_.out (by kernel_rfl)) (fun _ _ _ h=>h) (Or.inl ⟨by rfl,?_⟩) ?_ ?_;rotate_left
  ·intro w';go_simp;with_reducible rfl
  rotate_left
  ·simp only [Act.put,s1,s2,s3,i64_w,i32_w];rfl
  refine one_ (i:=9) (N:=some 14) (tf 10 1) rfl rfl (one_of HT_.out (by kernel_rfl)) (by decide) (fun K hK=>?_);refine goes_ Try.func99 (by kernel_rfl) rfl #[.bool (A8 != A2)] (by rfl) rfl rfl ml ?_
  with_reducible refine (impl_bit.calls (A8 != A2) A3 _ A7.out).mono ?_
  rintro e w' ⟨rfl,⟨nd,rfl⟩⟩;refine ⟨_,rfl,?_⟩;refine hK.out _ _ ⟨(blk_cell A1.out 0).trans rfl,(blk_cell A1.out 1).trans rfl⟩ (fun hHeld=>?_);clear hK K;refine norm_ (a':=?_) ?_ ?_;rotate_left
  ·show Act.put _ (some 14) _=_
   simp only [Act.put,s1,s2,s3,i64_w,i32_w];rfl
  refine pure_ (i:=10) (N:=some 4) (v:=?_) (a':=?_) (tf 11 0) rfl rfl (any_of HT_.out (by kernel_rfl)) (fun _ _ _ h=>h) (Or.inl ⟨by rfl,?_⟩) ?_ ?_;rotate_left
  ·intro w';go_simp;with_reducible rfl
  rotate_left
  ·simp only [Act.put,s1,s2,s3,i64_w,i32_w];rfl
  refine done_ (done_of HT_.out (by kernel_rfl)) ?_
  try go_wp2
  go_ret;exact ⟨er,tb HB⟩
 ·rw [if_neg c3] at H;exact absurd H (by simp)
def impl_copyInts.f (l0:List Int):Option (List Int):=if ([]:List Int).length + l0.length < 17592186044416 then (some (([]:List Int) ++ l0)) else (none)
set_option maxHeartbeats 8000000 in
set_option maxRecDepth 100000 in
theorem impl_copyInts.calls (A0:Option Addr) (c0:Nat) (l0:List Int) (r:List Int) (w:World) (hr0:Kd.C (Kd.int .i64) w A0 l0.length l0) (hc0:l0.length≤c0) (h:impl_copyInts.f l0=some r) :
  Calls Try.prog 115 #[.slice A0 l0.length c0] w fun e w'=>∃ v0_:Value,e = .returned (v0_)∧Kd.R (Kd.int .i64) 3 w' w.heap.size (fun _=>True) v0_ r∧Below w.heap.size w w':=by
 have HR0:=Aside0.mk hr0;have HC0:=Aside0.mk hc0;clear hr0 hc0;have HB:=Aside0.mk (Below.refl w.heap.size w);have H:(if ([]:List Int).length + l0.length < 17592186044416 then (some (([]:List Int) ++ l0)) else (none))=some r:=h;clear h
 by_cases c2:([]:List Int).length + l0.length < 17592186044416
 ·rw [if_pos c2] at H;have LMc2:=Aside0.mk c2;clear c2;obtain ⟨y101,hy101⟩:∃ y_:List Int,y_=(([]:List Int) ++ l0):=⟨_,rfl⟩
  replace H:(some y101)=some r:=by first|(rw [hy101];with_reducible exact H)|(have H2_:=(Option.bind_some _ _).symm.trans H;rw [hy101];with_reducible exact H2_)|(have H2_:=(Option.bind_some _ _).symm.trans H;with_reducible exact H2_)|with_reducible exact H|(rw [hy101];exact H)|exact H
  have Ny101:=Aside0.mk hy101;clear hy101;obtain rfl:=os H
  go_enter Try.func115,Try.ntmps115
  go_wp2_with (first|((with_reducible refine gate_builtin (b := .append) (xs:=#[.const (.slice none 0 0),.tmp 3]) rfl ?_);at_builtin;refine Kd.R_append_rows (Kd.int .i64) (w0:=w) w.heap.size rfl (.const (.slice none 0 0)) (.tmp 3) 33 3 (.int .i64 0) 8 rfl Try.underlying33 info3 rfl (by decide) (by omega) (.slice none 0 0) ([]:List Int) l0 _ _ _ (fun _=>True) (fun _=>False) rfl rfl ?aO ?aR (fun _ _ h=>h) (fun _ h=>h.elim) ?aF ?aB ?aS ?aL ?_;(case aR=>exact cw HR0.out);(case aB=>exact (tb HB));(case aF=>exact (fun _ _=>trivial));(case aO=>exact ((Kd.R_nil _ _ _ _ (fun _=>True))));(case aS=>exact (below_size (tb HB)));(case aL=>have:=LMc2.out;omega);intro v102 w3 ho hb hg hat;rw [← Ny101.out] at ho;replace HB:=Aside0.mk (hb);have A1:=Aside0.mk (ho);clear ho hb hg hat));go_ret;exact ⟨_,er,ra A1,tb HB⟩
 ·rw [if_neg c2] at H;exact absurd H (by simp)
end Go.Proofs.Ytlpfmhikahlcoaa.G
namespace Go.Proofs.Ytlpfmhikahlcoaa.G
open Go.RowKit Go.Proofs.YtlpfmhikahlcoaaW.PrintWords Go.Proofs.YtlpfmhikahlcoaaW.PrintLast Go.Proofs.YtlpfmhikahlcoaaW.PrintMore
attribute [local go_sem] max2_int min2_int max_two min_two max_three min_three max_four min_four
set_option linter.unusedVariables false
set_option linter.unusedSimpArgs false
theorem own_bool_at {W:World} {base n c:Nat} {ad:Addr} {l:List Bool} {ok:Nat→Prop} (h:Kd.R Kd.bool 4 W base ok (.slice (some ad) n c) l) (i:Nat) (hi:i < l.length):W.cell? (ad.add i)=some (.bool (rdOf false l (i:Int))):=by
 have hr:=Kd.R_reads' h
 obtain ⟨ad',e,hx⟩:=Kd.at_bool hr.2.2 (i:Int) (by omega) (by have:=hr.1;omega)
 cases e
 rwa [Int.toNat_natCast] at hx
def FrW (g:Nat) (w w':World):Prop:=∀ k cs T,k≠g→T≠108→w.heap[k]? = some (.cells cs T (0,0))→w'.heap[k]? = some (.cells cs T (0,0))
theorem FrW.refl (g:Nat) (w:World):FrW g w w:=fun _ _ _ _ _ h=>h
theorem FrW.trans {g:Nat} {w w1 w2:World} (h:FrW g w w1) (h2:FrW g w1 w2):FrW g w w2:=fun k cs T a b d=>h2 k cs T a b (h k cs T a b d)
theorem FrW.of_below {g:Nat} {w w1:World} (h:Below w.heap.size w w1):FrW g w w1:=fun k cs T _ _ d=>blk_below d h
theorem FrW.set {g:Nat} {w w1:World} (h:FrW g w w1) (j:Nat) (v:Value):FrW g w (w1.setCell ⟨g,j,none⟩ v):=fun k cs T a b d=>blk_far (h k cs T a b d) a _
theorem R_fr {α:Type} {d:Kd α} {e base g:Nat} {w w':World} {ok:Nat→Prop} {v:Value} {xs:List α} (h:d.R e w base ok v xs) (hf:FrW g w w') {cs:Array Value} (hg:w.heap[g]? = some (.cells cs 104 (0,0))) (ht:∀ q,q∈e :: d.E→q≠104∧q≠108):d.R e w' base ok v xs:=by
 refine Kd.R_mono (Kd.R_move (Kd.R_bound h) (fun k hk=>?_)) (fun _ hk=>hk.1)
 obtain ⟨_,_,_,q,hq,cells,hc⟩:=hk
 rw [hc]
 refine hf k cells q ?_ (ht q hq).2 hc
 rintro rfl
 rw [hg] at hc
 injection hc with hc
 injection hc with _ hc
 exact (ht q hq).1 hc.symm
structure IsW (W:World) (base g:Nat) (Ar:Option Addr) (nr cr:Nat) (Ao:Option Addr) (no co:Nat) (owns:List Bool) (Al:Option Addr) (nl cl:Nat) (L:List S108):Prop where
 blk:W.heap[g]? = some (.cells #[.slice Ar nr cr,.slice Ao no co,.slice Al nl cl] 104 (0,0))
 owns:Kd.R Kd.bool 4 W base (fun _=>True) (.slice Ao no co) owns
 list:Kd.S k108 108 W base (fun _=>True) (.slice Al nl cl) L
 geg:base≤g
theorem IsW.below {W W':World} {base g:Nat} {Ar:Option Addr} {nr cr:Nat} {Ao:Option Addr} {no co:Nat} {owns:List Bool} {Al:Option Addr} {nl cl:Nat} {L:List S108} (h:IsW W base g Ar nr cr Ao no co owns Al nl cl L) (hb:Below W.heap.size W W'):IsW W' base g Ar nr cr Ao no co owns Al nl cl L :=
 ⟨blk_below h.blk hb,Kd.R_below h.owns hb,Kd.S_below h.list hb,h.geg⟩
def IsWx (W:World) (base g:Nat) (Ar:Option Addr) (nr cr:Nat) (owns:List Bool) (L:List S108):Prop:=∃ Ao co Al cl,IsW W base g Ar nr cr Ao owns.length co owns Al L.length cl L
structure WS (w0 w W:World) (g gt:Nat) (Ar:Option Addr) (nr cr:Nat) (Ao:Option Addr) (no co:Nat) (owns:List Bool) (Al:Option Addr) (nl cl:Nat) (L:List S108) (Av:Option Addr) (cv:Nat) (vals:List Int) (n:Int) (s:ByteArray):Prop where
 I:IsW W w0.heap.size g Ar nr cr Ao no co owns Al nl cl L
 X:Below w0.heap.size w0 W
 F:FrW g w W
 T:W.heap[gt]? = some (.cells #[.int .i64 n,.string s] 29 (0,0))
 V:Kd.R (Kd.int .i64) 3 W w0.heap.size (fun _=>True) (.slice Av vals.length cv) vals
 len:nl=L.length
section
variable {w0 w W W':World} {g gt:Nat} {Ar:Option Addr} {nr cr:Nat} {Ao:Option Addr} {no co:Nat} {owns:List Bool} {Al:Option Addr} {nl cl:Nat} {L:List S108} {Av:Option Addr} {cv:Nat} {vals:List Int} {n:Int} {s:ByteArray}
theorem WS.ne (h:WS w0 w W g gt Ar nr cr Ao no co owns Al nl cl L Av cv vals n s):gt≠g:=blk_ne h.T h.I.blk (by decide)
theorem WS.below (h:WS w0 w W g gt Ar nr cr Ao no co owns Al nl cl L Av cv vals n s) (hb:Below W.heap.size W W'):WS w0 w W' g gt Ar nr cr Ao no co owns Al nl cl L Av cv vals n s :=
 ⟨h.I.below hb,below_step h.X hb,h.F.trans (FrW.of_below hb),blk_below h.T hb,Kd.R_below h.V hb,h.len⟩
theorem WS.turn (h:WS w0 w W g gt Ar nr cr Ao no co owns Al nl cl L Av cv vals n s) {Ao':Option Addr} {no' co':Nat} {Al':Option Addr} {nl' cl':Nat} {L':List S108} (hi:IsW W' w0.heap.size g Ar nr cr Ao' no' co' owns Al' nl' cl' L') (hl:nl'=L'.length) (hx:Below w0.heap.size w0 W') (hf:FrW g W W') :
  WS w0 w W' g gt Ar nr cr Ao' no' co' owns Al' nl' cl' L' Av cv vals n s :=
 ⟨hi,hx,h.F.trans hf,hf _ _ _ h.ne (by decide) h.T,R_fr h.V hf h.I.blk (by decide),hl⟩
theorem WS.put (h:WS w0 w W g gt Ar nr cr Ao no co owns Al nl cl L Av cv vals n s) {Al':Option Addr} {nl' cl':Nat} {L':List S108} (ho:Kd.S k108 108 W' w0.heap.size (fun _=>True) (.slice Al' nl' cl') L') (hl:nl'=L'.length) (hx:Below w0.heap.size w0 W') (hg:W.grownBy W' (Value.slice Al nl cl).ownBlock) :
  WS w0 w (W'.setCell ⟨g,2,none⟩ (.slice Al' nl' cl')) g gt Ar nr cr Ao no co owns Al' nl' cl' L' Av cv vals n s:=by
 have hb:=blk_grown h.I.blk hg (Kd.S_ne h.I.list h.I.blk (by decide))
 have ht:=blk_grown h.T hg (Kd.S_ne h.I.list h.T (by decide))
 refine ⟨⟨blk_put hb 2 _ rfl,Kd.R_set (Kd.R_over' h.I.owns (Kd.S_typed h.I.list) (by decide) hg) hb (by decide) 2 _,Kd.S_set ho hb (by decide) 2 _,h.I.geg⟩,below_set hx h.I.geg,?_,blk_far ht h.ne _,Kd.R_set (Kd.R_over' h.V (Kd.S_typed h.I.list) (by decide) hg) hb (by decide) 2 _,hl⟩
 exact FrW.set (fun k cs T a b d=>blk_grown (h.F k cs T a b d) hg (Kd.S_ne h.I.list (h.F k cs T a b d) (fun e=>b e.symm))) 2 _
theorem WS.x (h:WS w0 w W g gt Ar nr cr Ao owns.length co owns Al nl cl L Av cv vals n s):IsWx W w0.heap.size g Ar nr cr owns L:=by
 have hI:=h.I
 rw [h.len] at hI
 exact ⟨_,_,_,_,hI⟩
theorem inner_ok (hl:Kd.S k108 108 W w0.heap.size (fun _=>True) (.slice Al nl cl) L) {v:Value} {xs:List Int} {b:Nat} (hs:b≤W.heap.size) (hb0:w0.heap.size≤b) (h:Kd.R (Kd.int .i64) 3 W b (fun _=>True) v xs):Kd.R (Kd.int .i64) 3 W w0.heap.size (fun k=>b≤k∧some k≠(Value.slice Al nl cl).ownBlock) v xs:=by
 refine Kd.R_lower (base':=w0.heap.size) ⟨fun k hk=>⟨(Kd.R_bound h).1 k hk |>.2.1,fun e=>?_⟩,h.2⟩ hb0
 obtain ⟨c1,h1⟩:=Kd.R_typed h k hk
 exact Kd.S_ne hl h1 (by decide) e
theorem list_old {Wb:World} (hl:Kd.S k108 108 Wb w0.heap.size (fun _=>True) (.slice Al nl cl) L) (hb:Below Wb.heap.size Wb W) {u:Value}:Kd.S k108 108 W w0.heap.size (fun k=>True∧¬ (Wb.heap.size≤k∧some k≠u.ownBlock)) (.slice Al nl cl) L :=
 Kd.S_mono (Kd.S_old hl hb) (fun k hk=>⟨trivial,fun h=>by have:=hk.2;have:=h.1;omega⟩)
end
def wkF:Nat→List Bool→List Bool→Int→ByteArray→List Int→List S108→Option (List S108)
 | 0,_,_,_,_,_,_=>none
 | k + 1,row,owns,n,s,vals,L=>(impl_Table_known.f n s).bind fun kn=>if 0≤kn then some L else
  if vals.length < owns.length then
   if rdOf false owns (vals.length:Int)=false then
    (impl_Table_half.f n s 0).bind fun h=>(impl_copyInts.f vals).bind fun c=>if c.length < 17592186044416 then (wkF k row owns h.1 h.2 (c ++ [0]) L).bind fun L1 =>
     (impl_Table_half.f n s 1).bind fun h1=>wkF k row owns h1.1 h1.2 (c ++ [1]) L1 else none
   else if vals.length≤row.length then (impl_choose.f k (row.drop vals.length) n s).bind fun b=>(impl_copyInts.f vals).bind fun c=>if c.length < 17592186044416∧L.length < 4398046511104 then
    (impl_Table_half.f n s b).bind fun h=>wkF k row owns h.1 h.2 (c ++ [b]) (L ++ [⟨c,b⟩]) else none else none
  else none
set_option maxHeartbeats 8000000 in
set_option maxRecDepth 100000 in
theorem wk.calls:∀ (k:Nat) (w0:World) (row:List Bool) (Ar:Option Addr) (cr:Nat) (hrow:Kd.C Kd.bool w0 Ar row.length row) (hrc:row.length≤cr) (g:Nat) (owns:List Bool) (n:Int) (s:ByteArray) (L:List S108) (Av:Option Addr) (nv cv:Nat) (vals:List Int) (R:List S108) (w:World),nv=vals.length →
  IsWx w w0.heap.size g Ar row.length cr owns L→Below w0.heap.size w0 w→Kd.R (Kd.int .i64) 3 w w0.heap.size (fun _=>True) (.slice Av nv cv) vals→wkF k row owns n s vals L=some R →
  Calls Try.prog 91 #[.pointer (some ⟨g,0,none⟩),.agg #[.int .i64 n,.string s],.slice Av nv cv] w fun e w'=>e = .returned (.tuple #[])∧IsWx w' w0.heap.size g Ar row.length cr owns R∧Below w0.heap.size w0 w'∧FrW g w w':=by
 intro k
 induction k with
 | zero=>intro w0 row Ar cr _ _ g owns n s L Av nv cv vals R w _ _ _ _ h;cases h
 | succ k ih =>
 intro w0 row Ar cr hrow hrc g owns n s L Av nv cv vals R w hnv hI hB hV h
 obtain ⟨Ao,co,Al,cl,hI⟩:=hI
 obtain ⟨nl,hnl⟩:∃ z,z=L.length:=⟨_,rfl⟩
 rw [← hnl] at hI
 subst hnv
 have HRW:=Aside0.mk hrow
 have HRC:=Aside0.mk hrc
 have HI:=Aside0.mk hI
 have HX:=Aside0.mk hB
 have HV:=Aside0.mk hV
 have LEN:=Aside0.mk hnl
 clear hrow hrc hI hB hV hnl
 unfold wkF at h
 obtain ⟨kn,hk,h⟩:=Option.bind_eq_some_iff.1 h
 have HK:=Aside0.mk hk
 clear hk
 by_cases c1:0≤kn
 ·rw [if_pos c1] at h
  obtain rfl:=Option.some.inj h
  have dk:decide (0≤kn)=true:=decide_eq_true c1
  clear c1 h
  go_enter Try.func91,Try.ntmps91
  go_wp2_with (first|((with_reducible refine gate_dst (N:=4) rfl ?_);refine box_event ?hg (N:=4) ?hd (cs:=#[.int .i64 n,.string s]) (t:=29) ?hr ?_;(case hd=>rfl);(case hg=>rfl);(case hr=>first|(go_simp;done)|(go_simp;rfl));intro gt hg w1 hbox hb;have Sa:Aside0 (WS w0 w w1 g gt Ar row.length cr Ao owns.length co owns Al nl cl L Av cv vals n s):=⟨⟨HI.out.below hb,below_step HX.out hb,FrW.of_below hb,hbox,Kd.R_below HV.out hb,LEN.out⟩⟩;have hct0:w1.cell? ⟨gt,0,none⟩=some (.int .i64 n):=(blk_cell Sa.out.T 0).trans rfl;have hct1:w1.cell? ⟨gt,1,none⟩=some (.string s):=(blk_cell Sa.out.T 1).trans rfl;have hcg0:w1.cell? ⟨g,0,none⟩=some (.slice Ar row.length cr):=(blk_cell Sa.out.I.blk 0).trans rfl;have hcg1:w1.cell? ⟨g,1,none⟩=some (.slice Ao owns.length co):=(blk_cell Sa.out.I.blk 1).trans rfl;have hcg2:w1.cell? ⟨g,2,none⟩=some (.slice Al nl cl):=(blk_cell Sa.out.I.blk 2).trans rfl;clear hg hbox hb)|((with_reducible refine gate_callee (f:=107) rfl ?_);(try (refine gate_guard (by rfl) ?_;dsimp only));refine goesL_ (some 9) rfl rfl Try.func107 (by kernel_rfl) rfl #[.agg #[.int .i64 n,.string s]] rfl (by (try simp only [List.map_toArray,List.map_cons,List.map_nil]);first|done|rfl) ?_;(with_reducible refine (impl_Table_known.calls n s kn _ HK.out).mono ?_);rintro e w2 ⟨rfl,hb⟩;refine ⟨_,rfl,?_⟩;have Sb:=Aside0.mk (Sa.out.below hb);clear hct0 hct1 hcg0 hcg1 hcg2;clear hb Sa;have hct0:w2.cell? ⟨gt,0,none⟩=some (.int .i64 n):=(blk_cell Sb.out.T 0).trans rfl;have hct1:w2.cell? ⟨gt,1,none⟩=some (.string s):=(blk_cell Sb.out.T 1).trans rfl;have hcg0:w2.cell? ⟨g,0,none⟩=some (.slice Ar row.length cr):=(blk_cell Sb.out.I.blk 0).trans rfl;have hcg1:w2.cell? ⟨g,1,none⟩=some (.slice Ao owns.length co):=(blk_cell Sb.out.I.blk 1).trans rfl;have hcg2:w2.cell? ⟨g,2,none⟩=some (.slice Al nl cl):=(blk_cell Sb.out.I.blk 2).trans rfl))
  refine bodyPost_ret (results_none rfl _ _ _) rfl ?_
  have hl:=Sb.out.len
  have hI:=Sb.out.I
  rw [hl] at hI
  exact ⟨rfl,⟨_,_,_,_,hI⟩,Sb.out.X,Sb.out.F⟩
 rw [if_neg c1] at h
 have dk:decide (0≤kn)=false:=decide_eq_false c1
 clear c1
 by_cases c2:vals.length < owns.length
 case neg=>rw [if_neg c2] at h;cases h
 rw [if_pos c2] at h
 have C2:=Aside0.mk c2
 obtain ⟨ad,e_,hxo⟩:=Kd.at_bool (Kd.R_reads' HI.out.owns).2.2 (vals.length:Int) (by omega) (by omega)
 cases e_
 clear hxo
 have q1:(vals.length < owns.length)=True:=eq_true (by omega)
 have q2:((vals.length:Int) < (owns.length:Int))=True:=eq_true (by omega)
 clear c2
 cases c3:rdOf false owns (vals.length:Int) with
 | false =>
  have C3:=Aside0.mk c3
  rw [c3] at h
  rw [if_pos rfl] at h
  obtain ⟨⟨n0,s0⟩,h0,h⟩:=Option.bind_eq_some_iff.1 h
  obtain ⟨c,hc,h⟩:=Option.bind_eq_some_iff.1 h
  by_cases c4:c.length < 17592186044416
  case neg=>rw [if_neg c4] at h;cases h
  rw [if_pos c4] at h
  obtain ⟨L1,hb0,h⟩:=Option.bind_eq_some_iff.1 h
  obtain ⟨⟨n1,s1⟩,h1,h⟩:=Option.bind_eq_some_iff.1 h
  obtain ⟨y0,hy0⟩:∃ y:List Int,y=c ++ [0]:=⟨_,rfl⟩
  obtain ⟨y1,hy1⟩:∃ y:List Int,y=c ++ [1]:=⟨_,rfl⟩
  rw [← hy0] at hb0
  rw [← hy1] at h
  dsimp only at hb0 h
  have H0:=Aside0.mk h0
  have H1:=Aside0.mk h1
  have HCP:=Aside0.mk hc
  have HL:=Aside0.mk c4
  have HB0:=Aside0.mk hb0
  have HB1:=Aside0.mk h
  have Y0:=Aside0.mk hy0
  have Y1:=Aside0.mk hy1
  clear h0 h1 hc c4 hb0 h hy0 hy1
  go_enter Try.func91,Try.ntmps91
  go_wp2_with (first|((with_reducible refine gate_dst (N:=4) rfl ?_);refine box_event ?hg (N:=4) ?hd (cs:=#[.int .i64 n,.string s]) (t:=29) ?hr ?_;(case hd=>rfl);(case hg=>rfl);(case hr=>first|(go_simp;done)|(go_simp;rfl));intro gt hg w1 hbox hb;have Sa:Aside0 (WS w0 w w1 g gt Ar row.length cr (some ad) owns.length co owns Al nl cl L Av cv vals n s):=⟨⟨HI.out.below hb,below_step HX.out hb,FrW.of_below hb,hbox,Kd.R_below HV.out hb,LEN.out⟩⟩;have hct0:w1.cell? ⟨gt,0,none⟩=some (.int .i64 n):=(blk_cell Sa.out.T 0).trans rfl;have hct1:w1.cell? ⟨gt,1,none⟩=some (.string s):=(blk_cell Sa.out.T 1).trans rfl;have hcg0:w1.cell? ⟨g,0,none⟩=some (.slice Ar row.length cr):=(blk_cell Sa.out.I.blk 0).trans rfl;have hcg1:w1.cell? ⟨g,1,none⟩=some (.slice (some ad) owns.length co):=(blk_cell Sa.out.I.blk 1).trans rfl;have hcg2:w1.cell? ⟨g,2,none⟩=some (.slice Al nl cl):=(blk_cell Sa.out.I.blk 2).trans rfl;have hxo:=C3.out ▸ own_bool_at Sa.out.I.owns vals.length C2.out;clear hg hbox hb)|((with_reducible refine gate_callee (f:=107) rfl ?_);(try (refine gate_guard (by rfl) ?_;dsimp only));refine goesL_ (some 9) rfl rfl Try.func107 (by kernel_rfl) rfl #[.agg #[.int .i64 n,.string s]] rfl (by (try simp only [List.map_toArray,List.map_cons,List.map_nil]);first|done|rfl) ?_;(with_reducible refine (impl_Table_known.calls n s kn _ HK.out).mono ?_);rintro e w2 ⟨rfl,hb⟩;refine ⟨_,rfl,?_⟩;have Sb:=Aside0.mk (Sa.out.below hb);clear hct0 hct1 hcg0 hcg1 hcg2 hxo;clear hb Sa;have hct0:w2.cell? ⟨gt,0,none⟩=some (.int .i64 n):=(blk_cell Sb.out.T 0).trans rfl;have hct1:w2.cell? ⟨gt,1,none⟩=some (.string s):=(blk_cell Sb.out.T 1).trans rfl;have hcg0:w2.cell? ⟨g,0,none⟩=some (.slice Ar row.length cr):=(blk_cell Sb.out.I.blk 0).trans rfl;have hcg1:w2.cell? ⟨g,1,none⟩=some (.slice (some ad) owns.length co):=(blk_cell Sb.out.I.blk 1).trans rfl;have hcg2:w2.cell? ⟨g,2,none⟩=some (.slice Al nl cl):=(blk_cell Sb.out.I.blk 2).trans rfl;have hxo:=C3.out ▸ own_bool_at Sb.out.I.owns vals.length C2.out)|((with_reducible refine gate_callee (f:=108) rfl ?_);(try (refine gate_guard (by rfl) ?_;dsimp only));refine goesL_ (some 23) rfl rfl Try.func108 (by kernel_rfl) rfl #[.agg #[.int .i64 n,.string s],.int .i64 0] rfl (by (try simp only [List.map_toArray,List.map_cons,List.map_nil]);first|done|rfl) ?_;(with_reducible refine (impl_Table_half.calls n s 0 n0 s0 _ H0.out).mono ?_);rintro e w3 ⟨rfl,hb⟩;refine ⟨_,rfl,?_⟩;have Sc:=Aside0.mk (Sb.out.below hb);clear hct0 hct1 hcg0 hcg1 hcg2 hxo;clear hb Sb;have hct0:w3.cell? ⟨gt,0,none⟩=some (.int .i64 n):=(blk_cell Sc.out.T 0).trans rfl;have hct1:w3.cell? ⟨gt,1,none⟩=some (.string s):=(blk_cell Sc.out.T 1).trans rfl;have hcg0:w3.cell? ⟨g,0,none⟩=some (.slice Ar row.length cr):=(blk_cell Sc.out.I.blk 0).trans rfl;have hcg1:w3.cell? ⟨g,1,none⟩=some (.slice (some ad) owns.length co):=(blk_cell Sc.out.I.blk 1).trans rfl;have hcg2:w3.cell? ⟨g,2,none⟩=some (.slice Al nl cl):=(blk_cell Sc.out.I.blk 2).trans rfl;have hxo:=C3.out ▸ own_bool_at Sc.out.I.owns vals.length C2.out)|((with_reducible refine gate_callee (f:=115) rfl ?_);(try (refine gate_guard (by rfl) ?_;dsimp only));refine goesL_ (some 25) rfl rfl Try.func115 (by kernel_rfl) rfl #[.slice Av vals.length cv] rfl (by (try simp only [List.map_toArray,List.map_cons,List.map_nil]);first|done|rfl) ?_;(with_reducible refine (impl_copyInts.calls Av cv vals c _ (Kd.R_reads' Sc.out.V).2.2 (Kd.R_reads' Sc.out.V).2.1 HCP.out).mono ?_);rintro e w4 ⟨v_,rfl,ho,hb⟩;refine ⟨_,rfl,?_⟩;have RO:=Aside0.mk ho;have HB_RO:=Aside0.mk hb;clear ho hb)|((with_reducible refine gate_builtin (b := .append) (xs:=#[.tmp 25,.tmp 26]) rfl ?_);(try (refine gate_guard (by rfl) ?_;dsimp only));at_builtin;refine Kd.R_append (Kd.int .i64) (w0:=w3) w3.heap.size rfl (.tmp 25) (.tmp 26) 33 3 (.int .i64 0) 8 rfl Try.underlying33 info3 rfl (by decide) (by decide) _ c 0 [.int .i64 0] (fun _=>True) (fun _=>False) rfl rfl rfl (fun _ hk=>hk.elim) (fun _ _=>trivial) RO.out HB_RO.out HB_RO.out.size (by have:=HL.out;omega) ?_;intro v_ w5 ho hbx hg hat;rw [show c ++ [0]=y0 from Y0.out.symm] at ho;have HRd:=Aside0.mk (Kd.R_lower ho Sc.out.X.size);clear ho hg hat HB_RO RO;obtain ⟨Ad,cd,ed⟩:=Kd.R_slice HRd.out;subst ed;have Sd:=Aside0.mk (Sc.out.below hbx);clear hct0 hct1 hcg0 hcg1 hcg2 hxo;clear hbx Sc;have hct0:w5.cell? ⟨gt,0,none⟩=some (.int .i64 n):=(blk_cell Sd.out.T 0).trans rfl;have hct1:w5.cell? ⟨gt,1,none⟩=some (.string s):=(blk_cell Sd.out.T 1).trans rfl;have hcg0:w5.cell? ⟨g,0,none⟩=some (.slice Ar row.length cr):=(blk_cell Sd.out.I.blk 0).trans rfl;have hcg1:w5.cell? ⟨g,1,none⟩=some (.slice (some ad) owns.length co):=(blk_cell Sd.out.I.blk 1).trans rfl;have hcg2:w5.cell? ⟨g,2,none⟩=some (.slice Al nl cl):=(blk_cell Sd.out.I.blk 2).trans rfl;have hxo:=C3.out ▸ own_bool_at Sd.out.I.owns vals.length C2.out)|((with_reducible refine gate_callee (f:=91) rfl ?_);(try (refine gate_guard (by rfl) ?_;dsimp only));refine goesL_ (some 28) rfl rfl Try.func91 (by kernel_rfl) rfl #[.pointer (some ⟨g,0,none⟩),.agg #[.int .i64 n0,.string s0],.slice Ad y0.length cd] rfl (by (try simp only [List.map_toArray,List.map_cons,List.map_nil]);first|done|rfl) ?_;(with_reducible refine (ih w0 row Ar cr HRW.out HRC.out g owns n0 s0 L Ad y0.length cd y0 L1 _ rfl (Sd.out.x) Sd.out.X HRd.out HB0.out).mono ?_);rintro e w6 ⟨rfl,hI,hB,hF⟩;refine ⟨_,rfl,?_⟩;obtain ⟨Aoq,coq,Alq,clq,hI⟩:=hI;obtain ⟨nlq,hnl⟩:∃ z,z=L1.length:=⟨_,rfl⟩;rw [← hnl] at hI;have Se:=Aside0.mk (Sd.out.turn hI hnl hB hF);clear hct0 hct1 hcg0 hcg1 hcg2 hxo;clear hI hnl hB hF HRd Sd;have hct0:w6.cell? ⟨gt,0,none⟩=some (.int .i64 n):=(blk_cell Se.out.T 0).trans rfl;have hct1:w6.cell? ⟨gt,1,none⟩=some (.string s):=(blk_cell Se.out.T 1).trans rfl;have hcg0:w6.cell? ⟨g,0,none⟩=some (.slice Ar row.length cr):=(blk_cell Se.out.I.blk 0).trans rfl;have hcg1:w6.cell? ⟨g,1,none⟩=some (.slice Aoq owns.length coq):=(blk_cell Se.out.I.blk 1).trans rfl;have hcg2:w6.cell? ⟨g,2,none⟩=some (.slice Alq nlq clq):=(blk_cell Se.out.I.blk 2).trans rfl)|((with_reducible refine gate_callee (f:=108) rfl ?_);(try (refine gate_guard (by rfl) ?_;dsimp only));refine goesL_ (some 31) rfl rfl Try.func108 (by kernel_rfl) rfl #[.agg #[.int .i64 n,.string s],.int .i64 1] rfl (by (try simp only [List.map_toArray,List.map_cons,List.map_nil]);first|done|rfl) ?_;(with_reducible refine (impl_Table_half.calls n s 1 n1 s1 _ H1.out).mono ?_);rintro e w7 ⟨rfl,hb⟩;refine ⟨_,rfl,?_⟩;have Sf:=Aside0.mk (Se.out.below hb);clear hct0 hct1 hcg0 hcg1 hcg2;clear hb Se;have hct0:w7.cell? ⟨gt,0,none⟩=some (.int .i64 n):=(blk_cell Sf.out.T 0).trans rfl;have hct1:w7.cell? ⟨gt,1,none⟩=some (.string s):=(blk_cell Sf.out.T 1).trans rfl;have hcg0:w7.cell? ⟨g,0,none⟩=some (.slice Ar row.length cr):=(blk_cell Sf.out.I.blk 0).trans rfl;have hcg1:w7.cell? ⟨g,1,none⟩=some (.slice Aoq owns.length coq):=(blk_cell Sf.out.I.blk 1).trans rfl;have hcg2:w7.cell? ⟨g,2,none⟩=some (.slice Alq nlq clq):=(blk_cell Sf.out.I.blk 2).trans rfl)|((with_reducible refine gate_callee (f:=115) rfl ?_);(try (refine gate_guard (by rfl) ?_;dsimp only));refine goesL_ (some 33) rfl rfl Try.func115 (by kernel_rfl) rfl #[.slice Av vals.length cv] rfl (by (try simp only [List.map_toArray,List.map_cons,List.map_nil]);first|done|rfl) ?_;(with_reducible refine (impl_copyInts.calls Av cv vals c _ (Kd.R_reads' Sf.out.V).2.2 (Kd.R_reads' Sf.out.V).2.1 HCP.out).mono ?_);rintro e w8 ⟨v_,rfl,ho,hb⟩;refine ⟨_,rfl,?_⟩;have RO2:=Aside0.mk ho;have HB_RO2:=Aside0.mk hb;clear ho hb)|((with_reducible refine gate_builtin (b := .append) (xs:=#[.tmp 33,.tmp 34]) rfl ?_);(try (refine gate_guard (by rfl) ?_;dsimp only));at_builtin;refine Kd.R_append (Kd.int .i64) (w0:=w7) w7.heap.size rfl (.tmp 33) (.tmp 34) 33 3 (.int .i64 0) 8 rfl Try.underlying33 info3 rfl (by decide) (by decide) _ c 1 [.int .i64 1] (fun _=>True) (fun _=>False) rfl rfl rfl (fun _ hk=>hk.elim) (fun _ _=>trivial) RO2.out HB_RO2.out HB_RO2.out.size (by have:=HL.out;omega) ?_;intro v_ w9 ho hbx hg hat;rw [show c ++ [1]=y1 from Y1.out.symm] at ho;have HRg:=Aside0.mk (Kd.R_lower ho Sf.out.X.size);clear ho hg hat HB_RO2 RO2;obtain ⟨Ag,cg,eg⟩:=Kd.R_slice HRg.out;subst eg;have Sg:=Aside0.mk (Sf.out.below hbx);clear hct0 hct1 hcg0 hcg1 hcg2;clear hbx Sf;have hct0:w9.cell? ⟨gt,0,none⟩=some (.int .i64 n):=(blk_cell Sg.out.T 0).trans rfl;have hct1:w9.cell? ⟨gt,1,none⟩=some (.string s):=(blk_cell Sg.out.T 1).trans rfl;have hcg0:w9.cell? ⟨g,0,none⟩=some (.slice Ar row.length cr):=(blk_cell Sg.out.I.blk 0).trans rfl;have hcg1:w9.cell? ⟨g,1,none⟩=some (.slice Aoq owns.length coq):=(blk_cell Sg.out.I.blk 1).trans rfl;have hcg2:w9.cell? ⟨g,2,none⟩=some (.slice Alq nlq clq):=(blk_cell Sg.out.I.blk 2).trans rfl)|((with_reducible refine gate_callee (f:=91) rfl ?_);(try (refine gate_guard (by rfl) ?_;dsimp only));refine goesL_ (some 36) rfl rfl Try.func91 (by kernel_rfl) rfl #[.pointer (some ⟨g,0,none⟩),.agg #[.int .i64 n1,.string s1],.slice Ag y1.length cg] rfl (by (try simp only [List.map_toArray,List.map_cons,List.map_nil]);first|done|rfl) ?_;(with_reducible refine (ih w0 row Ar cr HRW.out HRC.out g owns n1 s1 L1 Ag y1.length cg y1 R _ rfl (Sg.out.x) Sg.out.X HRg.out HB1.out).mono ?_);rintro e w10 ⟨rfl,hI,hB,hF⟩;refine ⟨_,rfl,?_⟩;have FIN:=Aside0.mk (And.intro hI (And.intro hB (Sg.out.F.trans hF)));clear hI hB hF))
  refine bodyPost_ret (results_none rfl _ _ _) rfl ?_
  exact ⟨rfl,FIN.out.1,FIN.out.2.1,FIN.out.2.2⟩
 | true =>
  have C3:=Aside0.mk c3
  rw [c3] at h
  rw [if_neg (by decide)] at h
  by_cases c5:vals.length≤row.length
  case neg=>rw [if_neg c5] at h;cases h
  rw [if_pos c5] at h
  obtain ⟨b,hch,h⟩:=Option.bind_eq_some_iff.1 h
  obtain ⟨c,hc,h⟩:=Option.bind_eq_some_iff.1 h
  by_cases c4:c.length < 17592186044416∧L.length < 4398046511104
  case neg=>rw [if_neg c4] at h;cases h
  rw [if_pos c4] at h
  obtain ⟨⟨n0,s0⟩,h0,h⟩:=Option.bind_eq_some_iff.1 h
  obtain ⟨y0,hy0⟩:∃ y:List Int,y=c ++ [b]:=⟨_,rfl⟩
  obtain ⟨L1,hL1⟩:∃ z:List S108,z=L ++ [⟨c,b⟩]:=⟨_,rfl⟩
  obtain ⟨rw1,hrw1⟩:∃ z:List Bool,z=row.drop vals.length:=⟨_,rfl⟩
  rw [← hy0,← hL1] at h
  rw [← hrw1] at hch
  dsimp only at h
  have HCH:=Aside0.mk hch
  have H0:=Aside0.mk h0
  have HCP:=Aside0.mk hc
  have HL:=Aside0.mk c4.1
  have HLL:=Aside0.mk c4.2
  have HB0:=Aside0.mk h
  have Y0:=Aside0.mk hy0
  have YL:=Aside0.mk hL1
  have YR:=Aside0.mk hrw1
  clear h0 hc c4 h hy0 hL1 hrw1 hch
  -- the cut of the row
  have q87:(vals.length:Int)≤((row.length:Int):Int):=by omega
  obtain ⟨i087,hi087,_,hsz87,_⟩:=info_parts info4
  have hcut87:=cut_from (P:=Try.prog) 22 4 .i64 Try.underlying22 hi087 1 hsz87 Ar row.length cr (vals.length:Int) (by omega) q87
  have hr87:=Kd.C_drop (m:=vals.length) (c:=cr) HRW.out c5 HRC.out
  obtain ⟨A87,hA87⟩:∃ A1,A1=(if cr=vals.length then Ar else (Ar:Option Addr).map (·.add (vals.length * 1))):=⟨_,rfl⟩
  obtain ⟨c87,hc87⟩:∃ c1,c1=cr - vals.length:=⟨_,rfl⟩
  have hy87:rw1.length=row.length - vals.length:=by rw [YR.out,List.length_drop]
  rw [show row.drop vals.length=rw1 from YR.out.symm] at hr87
  replace hr87:Kd.C Kd.bool w0 A87 rw1.length rw1:=(by rw [hA87];exact hr87)
  rw [Int.toNat_natCast,← hy87,← hA87,← hc87] at hcut87
  have HR87:=Aside0.mk hr87
  have HC87:=Aside0.mk (show rw1.length≤c87 from by rw [hy87,hc87];exact Nat.sub_le_sub_right HRC.out _)
  clear hr87 hi087 hsz87 hc87 hy87 hA87
  replace q87:=eq_true q87
  have q88:(vals.length≤row.length)=True:=eq_true c5
  clear c5
  go_enter Try.func91,Try.ntmps91
  go_upto_region 6 with (first|((with_reducible refine gate_dst (N:=4) rfl ?_);refine box_event ?hg (N:=4) ?hd (cs:=#[.int .i64 n,.string s]) (t:=29) ?hr ?_;(case hd=>rfl);(case hg=>rfl);(case hr=>first|(go_simp;done)|(go_simp;rfl));intro gt hg w1 hbox hb;have Sa:Aside0 (WS w0 w w1 g gt Ar row.length cr (some ad) owns.length co owns Al nl cl L Av cv vals n s):=⟨⟨HI.out.below hb,below_step HX.out hb,FrW.of_below hb,hbox,Kd.R_below HV.out hb,LEN.out⟩⟩;have hct0:w1.cell? ⟨gt,0,none⟩=some (.int .i64 n):=(blk_cell Sa.out.T 0).trans rfl;have hct1:w1.cell? ⟨gt,1,none⟩=some (.string s):=(blk_cell Sa.out.T 1).trans rfl;have hcg0:w1.cell? ⟨g,0,none⟩=some (.slice Ar row.length cr):=(blk_cell Sa.out.I.blk 0).trans rfl;have hcg1:w1.cell? ⟨g,1,none⟩=some (.slice (some ad) owns.length co):=(blk_cell Sa.out.I.blk 1).trans rfl;have hcg2:w1.cell? ⟨g,2,none⟩=some (.slice Al nl cl):=(blk_cell Sa.out.I.blk 2).trans rfl;have hxo:=C3.out ▸ own_bool_at Sa.out.I.owns vals.length C2.out;clear hg hbox hb)|((with_reducible refine gate_callee (f:=107) rfl ?_);(try (refine gate_guard (by rfl) ?_;dsimp only));refine goesL_ (some 9) rfl rfl Try.func107 (by kernel_rfl) rfl #[.agg #[.int .i64 n,.string s]] rfl (by (try simp only [List.map_toArray,List.map_cons,List.map_nil]);first|done|rfl) ?_;(with_reducible refine (impl_Table_known.calls n s kn _ HK.out).mono ?_);rintro e w2 ⟨rfl,hb⟩;refine ⟨_,rfl,?_⟩;have Sb:=Aside0.mk (Sa.out.below hb);clear hct0 hct1 hcg0 hcg1 hcg2 hxo;clear hb Sa;have hct0:w2.cell? ⟨gt,0,none⟩=some (.int .i64 n):=(blk_cell Sb.out.T 0).trans rfl;have hct1:w2.cell? ⟨gt,1,none⟩=some (.string s):=(blk_cell Sb.out.T 1).trans rfl;have hcg0:w2.cell? ⟨g,0,none⟩=some (.slice Ar row.length cr):=(blk_cell Sb.out.I.blk 0).trans rfl;have hcg1:w2.cell? ⟨g,1,none⟩=some (.slice (some ad) owns.length co):=(blk_cell Sb.out.I.blk 1).trans rfl;have hcg2:w2.cell? ⟨g,2,none⟩=some (.slice Al nl cl):=(blk_cell Sb.out.I.blk 2).trans rfl;have hxo:=C3.out ▸ own_bool_at Sb.out.I.owns vals.length C2.out))
  have Sc:=Aside0.mk (Sb.out.below (below_drew (Below.refl _ _)))
  clear Sb
  clear hct0 hct1 hcg0 hcg1 hcg2 hxo
  refine start_ (n:=9) (S:=fun w'=>w'.cell? ⟨g,0,none⟩=some (.slice Ar row.length cr)∧w'.cell? ⟨gt,0,none⟩=some (.int .i64 n)∧w'.cell? ⟨gt,1,none⟩=some (.string s)) (ds:=[]) #[false,false,false,false,false,false,false,false,false] (by kernel_rfl) rfl rfl ⟨(blk_cell Sc.out.I.blk 0).trans rfl,(blk_cell Sc.out.T 0).trans rfl,(blk_cell Sc.out.T 1).trans rfl⟩ (fun hHeld=>?_)
  generalize w2.drew=w3 at Sc hHeld ⊢
  have Sd:=Sc
  clear Sc
  refine pure_ (i:=0) (N:=some 37) (v:=?_) (a':=?_) #[true,false,false,false,false,false,false,false,false] rfl rfl (by kernel_rfl) (fun _ _ _ h=>h) (Or.inl ⟨by rfl,?_⟩) ?_ ?_
  rotate_left
  ·intro w'
   go_simp
   with_reducible rfl
  rotate_left
  ·simp only [Act.put,List.setIfInBounds_toArray,List.set_cons_zero,List.set_cons_succ,i64_w,i32_w]
   rfl
  refine pure_ (i:=1) (N:=some 38) (v:=?_) (a':=?_) #[true,true,false,false,false,false,false,false,false] rfl rfl (by kernel_rfl) (fun _ _ _ h=>h) (Or.inl ⟨by rfl,?_⟩) ?_ ?_
  rotate_left
  ·intro w'
   go_simp
   with_reducible rfl
  rotate_left
  ·simp only [Act.put,List.setIfInBounds_toArray,List.set_cons_zero,List.set_cons_succ,i64_w,i32_w]
   rfl
  refine pure_ (i:=2) (N:=some 39) (v:=?_) (a':=?_) #[true,true,true,false,false,false,false,false,false] rfl rfl (by kernel_rfl) (fun _ _ _ h=>h) (Or.inl ⟨by rfl,?_⟩) ?_ ?_
  rotate_left
  ·intro w'
   go_simp
   with_reducible rfl
  rotate_left
  ·simp only [Act.put,List.setIfInBounds_toArray,List.set_cons_zero,List.set_cons_succ,i64_w,i32_w]
   rfl
  refine pure_ (i:=4) (N:=some 41) (v:=?_) (a':=?_) #[true,true,true,false,true,false,false,false,false] rfl rfl (by kernel_rfl) (fun _ _ _ h=>h) (Or.inl ⟨by rfl,?_⟩) ?_ ?_
  rotate_left
  ·intro w'
   go_simp
   with_reducible rfl
  rotate_left
  ·simp only [Act.put,List.setIfInBounds_toArray,List.set_cons_zero,List.set_cons_succ,i64_w,i32_w]
   rfl
  refine take_ (i:=3) (N:=some 40) (v:=?_) (a':=?_) #[true,true,true,true,true,false,false,false,false] rfl rfl (by kernel_rfl) (fun _ _ _ h=>h) (Or.inl ⟨by rfl,?_⟩) hHeld ?_ ?_
  rotate_left
  ·rintro w' ⟨s0,s1,s2⟩
   go_simp
   with_reducible rfl
  rotate_left
  ·simp only [Act.put,List.setIfInBounds_toArray,List.set_cons_zero,List.set_cons_succ,i64_w,i32_w]
   rfl
  refine pure_ (i:=5) (N:=some 42) (v:=?_) (a':=?_) #[true,true,true,true,true,true,false,false,false] rfl rfl (by kernel_rfl) (fun _ _ _ h=>h) (Or.inl ⟨by rfl,?_⟩) ?_ ?_
  rotate_left
  ·intro w'
   go_simp
   with_reducible rfl
  rotate_left
  ·simp only [Act.put,List.setIfInBounds_toArray,List.set_cons_zero,List.set_cons_succ,i64_w,i32_w]
   rfl
  refine take_ (i:=6) (N:=some 43) (v:=?_) (a':=?_) #[true,true,true,true,true,true,true,false,false] rfl rfl (by kernel_rfl) (fun _ _ _ h=>h) (Or.inl ⟨by rfl,?_⟩) hHeld ?_ ?_
  rotate_left
  ·rintro w' ⟨s0,s1,s2⟩
   go_simp
   with_reducible rfl
  rotate_left
  ·simp only [Act.put,List.setIfInBounds_toArray,List.set_cons_zero,List.set_cons_succ,i64_w,i32_w]
   rfl
  refine one_ (i:=7) (N:=some 44) #[true,true,true,true,true,true,true,true,false] rfl rfl (by kernel_rfl) (by decide) (fun K hK=>?_)
  refine goes_ Try.func62 (by kernel_rfl) rfl #[.slice A87 rw1.length c87,.agg #[.int .i64 n,.string s]] (by rfl) rfl rfl (by simp only [List.map_toArray,List.map_cons,List.map_nil];rfl) ?_
  with_reducible refine (impl_choose.calls k A87 c87 rw1 n s b _ (Kd.C_below HR87.out Sd.out.X) HC87.out HCH.out).mono ?_
  rintro e w4 ⟨rfl,hb⟩
  refine ⟨_,rfl,?_⟩
  have Se:=Aside0.mk (Sd.out.below hb)
  clear hb Sd
  refine hK.out _ _ ⟨(blk_cell Se.out.I.blk 0).trans rfl,(blk_cell Se.out.T 0).trans rfl,(blk_cell Se.out.T 1).trans rfl⟩ (fun hHeld=>?_)
  clear hK K
  refine norm_ (a':=?_) ?_ ?_
  rotate_left
  ·show Act.put _ (some 44) _=_
   simp only [Act.put,List.setIfInBounds_toArray,List.set_cons_zero,List.set_cons_succ,i64_w,i32_w]
   rfl
  refine pure_ (i:=8) (N:=some 7) (v:=?_) (a':=?_) #[true,true,true,true,true,true,true,true,true] rfl rfl (by kernel_rfl) (fun _ _ _ h=>h) (Or.inl ⟨by rfl,?_⟩) ?_ ?_
  rotate_left
  ·intro w'
   go_simp
   with_reducible rfl
  rotate_left
  ·simp only [Act.put,List.setIfInBounds_toArray,List.set_cons_zero,List.set_cons_succ,i64_w,i32_w]
   rfl
  refine done_ (by kernel_rfl) ?_
  clear hHeld
  have hct0:w4.cell? ⟨gt,0,none⟩=some (.int .i64 n):=(blk_cell Se.out.T 0).trans rfl
  have hct1:w4.cell? ⟨gt,1,none⟩=some (.string s):=(blk_cell Se.out.T 1).trans rfl
  have hcg0:w4.cell? ⟨g,0,none⟩=some (.slice Ar row.length cr):=(blk_cell Se.out.I.blk 0).trans rfl
  have hcg1:w4.cell? ⟨g,1,none⟩=some (.slice (some ad) owns.length co):=(blk_cell Se.out.I.blk 1).trans rfl
  have hcg2:w4.cell? ⟨g,2,none⟩=some (.slice Al nl cl):=(blk_cell Se.out.I.blk 2).trans rfl
  have hxo:=C3.out ▸ own_bool_at Se.out.I.owns vals.length C2.out
  go_upto_region 7 with (fail)
  have Sf:=Aside0.mk (Se.out.below (below_drew (Below.refl _ _)))
  clear Se
  clear hct0 hct1 hcg0 hcg1 hcg2 hxo
  refine start_ (n:=14) (S:=fun w'=>w'.cell? ⟨g,2,none⟩=some (.slice Al nl cl)) (ds:=[13]) #[false,false,false,false,false,false,false,false,false,false,false,false,false,false] (by kernel_rfl) rfl rfl ((blk_cell Sf.out.I.blk 2).trans rfl) (fun hHeld=>?_)
  generalize w4.drew=w5 at Sf hHeld ⊢
  have Sg:=Sf
  clear Sf
  refine pure_ (i:=0) (N:=some 45) (v:=?_) (a':=?_) #[true,false,false,false,false,false,false,false,false,false,false,false,false,false] rfl rfl (by kernel_rfl) (fun _ _ _ h=>h) (Or.inl ⟨by rfl,?_⟩) ?_ ?_
  rotate_left
  ·intro w'
   go_simp
   with_reducible rfl
  rotate_left
  ·simp only [Act.put,List.setIfInBounds_toArray,List.set_cons_zero,List.set_cons_succ,i64_w,i32_w]
   rfl
  refine pure_ (i:=1) (N:=some 46) (v:=?_) (a':=?_) #[true,true,false,false,false,false,false,false,false,false,false,false,false,false] rfl rfl (by kernel_rfl) (fun _ _ _ h=>h) (Or.inl ⟨by rfl,?_⟩) ?_ ?_
  rotate_left
  ·intro w'
   go_simp
   with_reducible rfl
  rotate_left
  ·simp only [Act.put,List.setIfInBounds_toArray,List.set_cons_zero,List.set_cons_succ,i64_w,i32_w]
   rfl
  refine pure_ (i:=2) (N:=some 47) (v:=?_) (a':=?_) #[true,true,true,false,false,false,false,false,false,false,false,false,false,false] rfl rfl (by kernel_rfl) (fun _ _ _ h=>h) (Or.inl ⟨by rfl,?_⟩) ?_ ?_
  rotate_left
  ·intro w'
   go_simp
   with_reducible rfl
  rotate_left
  ·simp only [Act.put,List.setIfInBounds_toArray,List.set_cons_zero,List.set_cons_succ,i64_w,i32_w]
   rfl
  refine pure_ (i:=3) (N:=some 48) (v:=?_) (a':=?_) #[true,true,true,true,false,false,false,false,false,false,false,false,false,false] rfl rfl (by kernel_rfl) (fun _ _ _ h=>h) (Or.inl ⟨by rfl,?_⟩) ?_ ?_
  rotate_left
  ·intro w'
   go_simp
   with_reducible rfl
  rotate_left
  ·simp only [Act.put,List.setIfInBounds_toArray,List.set_cons_zero,List.set_cons_succ,i64_w,i32_w]
   rfl
  refine pure_ (i:=5) (N:=some 50) (v:=?_) (a':=?_) #[true,true,true,true,false,true,false,false,false,false,false,false,false,false] rfl rfl (by kernel_rfl) (fun _ _ _ h=>h) (Or.inl ⟨by rfl,?_⟩) ?_ ?_
  rotate_left
  ·intro w'
   go_simp
   with_reducible rfl
  rotate_left
  ·simp only [Act.put,List.setIfInBounds_toArray,List.set_cons_zero,List.set_cons_succ,i64_w,i32_w]
   rfl
  refine pure_ (i:=7) (N:=some 52) (v:=?_) (a':=?_) #[true,true,true,true,false,true,false,true,false,false,false,false,false,false] rfl rfl (by kernel_rfl) (fun _ _ _ h=>h) (Or.inl ⟨by rfl,?_⟩) ?_ ?_
  rotate_left
  ·intro w'
   go_simp
   with_reducible rfl
  rotate_left
  ·simp only [Act.put,List.setIfInBounds_toArray,List.set_cons_zero,List.set_cons_succ,i64_w,i32_w]
   rfl
  refine take_ (i:=4) (N:=some 49) (v:=?_) (a':=?_) #[true,true,true,true,true,true,false,true,false,false,false,false,false,false] rfl rfl (by kernel_rfl) (fun _ _ _ h=>h) (Or.inl ⟨by rfl,?_⟩) hHeld ?_ ?_
  rotate_left
  ·intro w' s0
   go_simp
   with_reducible rfl
  rotate_left
  ·simp only [Act.put,List.setIfInBounds_toArray,List.set_cons_zero,List.set_cons_succ,i64_w,i32_w]
   rfl
  refine one_ (i:=6) (N:=some 51) #[true,true,true,true,true,true,true,true,false,false,false,false,false,false] rfl rfl (by kernel_rfl) (by decide) (fun K hK=>?_)
  refine goes_ Try.func115 (by kernel_rfl) rfl #[.slice Av vals.length cv] (by rfl) rfl rfl (by simp only [List.map_toArray,List.map_cons,List.map_nil];rfl) ?_
  with_reducible refine (impl_copyInts.calls Av cv vals c _ (Kd.R_reads' Sg.out.V).2.2 (Kd.R_reads' Sg.out.V).2.1 HCP.out).mono ?_
  rintro e w6 ⟨v_,rfl,ho,hb⟩
  refine ⟨_,rfl,?_⟩
  have RO:=Aside0.mk ho
  have Sh:=Aside0.mk (Sg.out.below hb)
  have LO:=Aside0.mk Sg.out.I.list
  have HXO:=Aside0.mk Sg.out.X.size
  have HBO:=Aside0.mk hb
  clear ho hb Sg
  obtain ⟨A6,c6,e6⟩:=Kd.R_slice RO.out
  subst e6
  refine hK.out _ _ ((blk_cell Sh.out.I.blk 2).trans rfl) (fun hHeld=>?_)
  clear hK K
  refine norm_ (a':=?_) ?_ ?_
  rotate_left
  ·show Act.put _ (some 51) _=_
   simp only [Act.put,List.setIfInBounds_toArray,List.set_cons_zero,List.set_cons_succ,i64_w,i32_w]
   rfl
  refine pure_ (i:=8) (N:=some 53) (v:=?_) (a':=?_) #[true,true,true,true,true,true,true,true,true,false,false,false,false,false] rfl rfl (by kernel_rfl) (fun _ _ _ h=>h) (Or.inl ⟨by rfl,?_⟩) ?_ ?_
  rotate_left
  ·intro w'
   go_simp
   with_reducible rfl
  rotate_left
  ·simp only [Act.put,List.setIfInBounds_toArray,List.set_cons_zero,List.set_cons_succ,i64_w,i32_w]
   rfl
  refine one_ (i:=9) (N:=some 54) #[true,true,true,true,true,true,true,true,true,true,false,false,false,false] rfl rfl (by kernel_rfl) (by decide) (fun K hK=>?_)
  refine value_ (w1:=?_) (v:=?_) (by rfl) rfl ?_ ?_
  rotate_left 2
  ·go_simp
   constructor
   ·rfl
   ·rfl
  refine hK.out _ _ ((blk_cell (blk_alloc Sh.out.I.blk _) 2).trans rfl) (fun hHeld=>?_)
  clear hK K
  refine norm_ (a':=?_) ?_ ?_
  rotate_left
  ·show Act.put _ (some 54) _=_
   simp only [Act.put,List.setIfInBounds_toArray,List.set_cons_zero,List.set_cons_succ,i64_w,i32_w]
   rfl
  refine one_ (i:=10) (N:=some 55) #[true,true,true,true,true,true,true,true,true,true,true,false,false,false] rfl rfl (by kernel_rfl) (by decide) (fun K hK=>?_)
  refine Kd.S_append_step k108 (w0:=w0) w0.heap.size (by rfl) (.tmp 49) (.tmp 54) 62 108 (.agg #[.slice none 0 0,.int .i64 0]) 32 rfl Try.underlying62 info108 rfl (by decide) (by omega) (.slice Al nl cl) L (⟨c,b⟩:S108) [.slice A6 c.length c6,.int .i64 b] (fun _=>True) (fun k=>w5.heap.size≤k∧some k≠(Value.slice Al nl cl).ownBlock) rfl rfl ?aP (fun _ hk=>⟨trivial,hk.2⟩) ?aF ?aO ?aB ?aS ?aL ?_
  (case aP=>exact k108_mkM _ _ _ (⟨c,b⟩:S108) (inner_ok Sh.out.I.list HBO.out.size HXO.out RO.out))
  (case aB=>exact Sh.out.X)
  (case aF=>exact (fun _ _=>trivial))
  (case aO=>exact list_old LO.out HBO.out)
  (case aS=>exact below_size Sh.out.X)
  (case aL=>have:=HLL.out;omega)
  intro v7 w7 ho hbx hg hat
  rw [show L ++ [(⟨c,b⟩:S108)]=L1 from YL.out.symm] at ho
  obtain ⟨A7,c7,e7⟩:=Kd.S_slice ho
  obtain ⟨n7,hn7⟩:∃ z,z=L1.length:=⟨_,rfl⟩
  rw [← hn7] at e7
  subst e7
  have Si:=Aside0.mk (Sh.out.put ho hn7 hbx hg)
  have BI:=Aside0.mk (blk_grown Sh.out.I.blk hg (Kd.S_ne Sh.out.I.list Sh.out.I.blk (by decide)))
  clear ho hn7 hbx hg hat Sh RO LO HXO HBO
  refine hK.out _ _ ((blk_cell BI.out 2).trans rfl) (fun hHeld=>?_)
  clear hK K
  refine norm_ (a':=?_) ?_ ?_
  rotate_left
  ·show Act.put _ (some 55) _=_
   simp only [Act.put,List.setIfInBounds_toArray,List.set_cons_zero,List.set_cons_succ,i64_w,i32_w]
   rfl
  refine pure_ (i:=11) (N:=some 56) (v:=?_) (a':=?_) #[true,true,true,true,true,true,true,true,true,true,true,true,false,false] rfl rfl (by kernel_rfl) (fun _ _ _ h=>h) (Or.inl ⟨by rfl,?_⟩) ?_ ?_
  rotate_left
  ·intro w'
   go_simp
   with_reducible rfl
  rotate_left
  ·simp only [Act.put,List.setIfInBounds_toArray,List.set_cons_zero,List.set_cons_succ,i64_w,i32_w]
   rfl
  refine pure_ (i:=12) (N:=some 57) (v:=?_) (a':=?_) #[true,true,true,true,true,true,true,true,true,true,true,true,true,false] rfl rfl (by kernel_rfl) (fun _ _ _ h=>h) (Or.inl ⟨by rfl,?_⟩) ?_ ?_
  rotate_left
  ·intro w'
   go_simp
   with_reducible rfl
  rotate_left
  ·simp only [Act.put,List.setIfInBounds_toArray,List.set_cons_zero,List.set_cons_succ,i64_w,i32_w]
   rfl
  refine last_ (i:=13) (N:=none) #[true,true,true,true,true,true,true,true,true,true,true,true,true,true] rfl rfl (by kernel_rfl) (by decide) (fun K hK=>?_)
  have hs7:w7.cell? ⟨g,2,none⟩=some (.slice Al nl cl):=(blk_cell BI.out 2).trans rfl
  have hfs7:=blk_frozen BI.out 2
  refine skip_ (w1:=?_) (by rfl) rfl ?_ ?_
  rotate_left
  ·go_simp
   rfl
  clear hs7 hfs7
  refine hK.out _ _ ?_
  clear hK K
  refine done_ (by kernel_rfl) ?_
  clear hHeld
  generalize w7.setCell ⟨g,2,none⟩ (.slice A7 n7 c7)=w8 at Si ⊢
  clear BI
  have hct0:w8.cell? ⟨gt,0,none⟩=some (.int .i64 n):=(blk_cell Si.out.T 0).trans rfl
  have hct1:w8.cell? ⟨gt,1,none⟩=some (.string s):=(blk_cell Si.out.T 1).trans rfl
  have hcg0:w8.cell? ⟨g,0,none⟩=some (.slice Ar row.length cr):=(blk_cell Si.out.I.blk 0).trans rfl
  have hcg1:w8.cell? ⟨g,1,none⟩=some (.slice (some ad) owns.length co):=(blk_cell Si.out.I.blk 1).trans rfl
  have hcg2:w8.cell? ⟨g,2,none⟩=some (.slice A7 n7 c7):=(blk_cell Si.out.I.blk 2).trans rfl
  have hxo:=C3.out ▸ own_bool_at Si.out.I.owns vals.length C2.out
  go_wp2_with (first|((with_reducible refine gate_callee (f:=108) rfl ?_);(try (refine gate_guard (by rfl) ?_;dsimp only));refine goesL_ (some 61) rfl rfl Try.func108 (by kernel_rfl) rfl #[.agg #[.int .i64 n,.string s],.int .i64 b] rfl (by (try simp only [List.map_toArray,List.map_cons,List.map_nil]);first|done|rfl) ?_;(with_reducible refine (impl_Table_half.calls n s b n0 s0 _ H0.out).mono ?_);rintro e w9 ⟨rfl,hb⟩;refine ⟨_,rfl,?_⟩;have Sj:=Aside0.mk (Si.out.below hb);clear hct0 hct1 hcg0 hcg1 hcg2 hxo;clear hb Si;have hct0:w9.cell? ⟨gt,0,none⟩=some (.int .i64 n):=(blk_cell Sj.out.T 0).trans rfl;have hct1:w9.cell? ⟨gt,1,none⟩=some (.string s):=(blk_cell Sj.out.T 1).trans rfl;have hcg0:w9.cell? ⟨g,0,none⟩=some (.slice Ar row.length cr):=(blk_cell Sj.out.I.blk 0).trans rfl;have hcg1:w9.cell? ⟨g,1,none⟩=some (.slice (some ad) owns.length co):=(blk_cell Sj.out.I.blk 1).trans rfl;have hcg2:w9.cell? ⟨g,2,none⟩=some (.slice A7 n7 c7):=(blk_cell Sj.out.I.blk 2).trans rfl;have hxo:=C3.out ▸ own_bool_at Sj.out.I.owns vals.length C2.out)|((with_reducible refine gate_callee (f:=115) rfl ?_);(try (refine gate_guard (by rfl) ?_;dsimp only));refine goesL_ (some 63) rfl rfl Try.func115 (by kernel_rfl) rfl #[.slice Av vals.length cv] rfl (by (try simp only [List.map_toArray,List.map_cons,List.map_nil]);first|done|rfl) ?_;(with_reducible refine (impl_copyInts.calls Av cv vals c _ (Kd.R_reads' Sj.out.V).2.2 (Kd.R_reads' Sj.out.V).2.1 HCP.out).mono ?_);rintro e w10 ⟨v_,rfl,ho,hb⟩;refine ⟨_,rfl,?_⟩;have RO3:=Aside0.mk ho;have HB_RO3:=Aside0.mk hb;clear ho hb)|((with_reducible refine gate_builtin (b := .append) (xs:=#[.tmp 63,.tmp 65]) rfl ?_);(try (refine gate_guard (by rfl) ?_;dsimp only));at_builtin;refine Kd.R_append (Kd.int .i64) (w0:=w9) w9.heap.size rfl (.tmp 63) (.tmp 65) 33 3 (.int .i64 0) 8 rfl Try.underlying33 info3 rfl (by decide) (by decide) _ c b [.int .i64 b] (fun _=>True) (fun _=>False) rfl rfl rfl (fun _ hk=>hk.elim) (fun _ _=>trivial) RO3.out HB_RO3.out HB_RO3.out.size (by have:=HL.out;omega) ?_;intro v_ w11 ho hbx hg hat;rw [show c ++ [b]=y0 from Y0.out.symm] at ho;have HRk:=Aside0.mk (Kd.R_lower ho Sj.out.X.size);clear ho hg hat HB_RO3 RO3;obtain ⟨Ak,ck,ek⟩:=Kd.R_slice HRk.out;subst ek;have Sk:=Aside0.mk (Sj.out.below hbx);clear hct0 hct1 hcg0 hcg1 hcg2 hxo;clear hbx Sj;have hct0:w11.cell? ⟨gt,0,none⟩=some (.int .i64 n):=(blk_cell Sk.out.T 0).trans rfl;have hct1:w11.cell? ⟨gt,1,none⟩=some (.string s):=(blk_cell Sk.out.T 1).trans rfl;have hcg0:w11.cell? ⟨g,0,none⟩=some (.slice Ar row.length cr):=(blk_cell Sk.out.I.blk 0).trans rfl;have hcg1:w11.cell? ⟨g,1,none⟩=some (.slice (some ad) owns.length co):=(blk_cell Sk.out.I.blk 1).trans rfl;have hcg2:w11.cell? ⟨g,2,none⟩=some (.slice A7 n7 c7):=(blk_cell Sk.out.I.blk 2).trans rfl;have hxo:=C3.out ▸ own_bool_at Sk.out.I.owns vals.length C2.out)|((with_reducible refine gate_callee (f:=91) rfl ?_);(try (refine gate_guard (by rfl) ?_;dsimp only));refine goesL_ (some 67) rfl rfl Try.func91 (by kernel_rfl) rfl #[.pointer (some ⟨g,0,none⟩),.agg #[.int .i64 n0,.string s0],.slice Ak y0.length ck] rfl (by (try simp only [List.map_toArray,List.map_cons,List.map_nil]);first|done|rfl) ?_;(with_reducible refine (ih w0 row Ar cr HRW.out HRC.out g owns n0 s0 L1 Ak y0.length ck y0 R _ rfl (Sk.out.x) Sk.out.X HRk.out HB0.out).mono ?_);rintro e w12 ⟨rfl,hI,hB,hF⟩;refine ⟨_,rfl,?_⟩;have FIN:=Aside0.mk (And.intro hI (And.intro hB (Sk.out.F.trans hF)));clear hI hB hF))
  refine bodyPost_end (results_none rfl _ _ _) rfl ?_
  exact ⟨rfl,FIN.out.1,FIN.out.2.1,FIN.out.2.2⟩
end Go.Proofs.Ytlpfmhikahlcoaa.G
namespace Go.Proofs.Ytlpfmhikahlcoaa.G
open Go.Proofs.Ytlpfmhikahlcoaa.Sh
open Go.RowKit Go.Proofs.YtlpfmhikahlcoaaW.PrintWords Go.Proofs.YtlpfmhikahlcoaaW.PrintLast Go.Proofs.YtlpfmhikahlcoaaW.PrintMore
attribute [local go_sem] max2_int min2_int max_two min_two max_three min_three max_four min_four
set_option linter.unusedVariables false
set_option linter.unusedSimpArgs false
def impl_within.f (a0:Int) (a1:Int) (a2:Int):Option (Bool):=if a0 ≥ a1 then (some (decide (a0≤a2))) else (some false)
set_option maxHeartbeats 8000000 in
set_option maxRecDepth 100000 in
theorem impl_within.calls (a0:Int) (a1:Int) (a2:Int) (r:Bool) (w:World) (h:impl_within.f a0 a1 a2=some r) :
  Calls Try.prog 64 #[.int .i64 a0,.int .i64 a1,.int .i64 a2] w fun e w'=>e = .returned (.bool r)∧Drawn0 w w':=by
 have H:(if a0 ≥ a1 then (some (decide (a0≤a2))) else (some false))=some r:=h;clear h
 by_cases c4:a0 ≥ a1
 ·rw [if_pos c4] at H;have c4b0:decide (a1≤a0)=true:=decide_eq_true c4;clear c4;obtain rfl:=os H
  go_enter Try.func64,Try.ntmps64
  go_wp2;go_ret;exact ⟨e1,dn⟩
 ·rw [if_neg c4] at H;have c4b0:decide (a1≤a0)=false:=decide_eq_false c4;clear c4;obtain rfl:=os H
  go_enter Try.func64,Try.ntmps64
  go_wp2;go_ret;exact ⟨e1,dn⟩
end Go.Proofs.Ytlpfmhikahlcoaa.G
namespace Go.Proofs.Ytlpfmhikahlcoaa.G
open Go.Proofs.Ytlpfmhikahlcoaa.Sh Go.RowKit Go.Proofs.YtlpfmhikahlcoaaW.PrintWords Go.Proofs.YtlpfmhikahlcoaaW.PrintLast Go.Proofs.YtlpfmhikahlcoaaW.PrintMore
attribute [local go_sem] max2_int min2_int max_two min_two max_three min_three max_four min_four
set_option linter.unusedVariables false
set_option linter.unusedSimpArgs false
mutual
def impl_TableOk.j0:Nat→Bool→Int→ByteArray→Option (Bool)
 | 0,_,_,_=>none
 | k + 1,x17,x102000,x102001=>if x17=true then (some false) else (impl_TableOk.l0 k (x102001.size:Int) 0 x102000 x102001)
def impl_TableOk.l0:Nat→Int→Int→Int→ByteArray→Option (Bool)
 | 0,_,_,_,_=>none
 | k + 1,x20,x21,x102000,x102001=>if x21 < x20 then (if 0≤x21 then (if x21 < (x102001.size:Int) then (if (bt x102001 x21)=48 then (impl_TableOk.l0 k x20 (wrap64 (x21 + 1)) x102000 x102001) else (if (bt x102001 x21)=49 then (impl_TableOk.l0 k x20 (wrap64 (x21 + 1)) x102000 x102001) else (some false))) else (none)) else (none)) else (some true)
end
def impl_TableOk.f (k:Nat) (A2:Int) (A1:ByteArray):Option (Bool):=(impl_within.f A2 0 12).bind fun A6=>(if A6=true then (if 0≤(IntKind.u64.wrap (A2)) then (impl_TableOk.j0 k ((A1.size:Int) != (shl .i64 1 (IntKind.u64.wrap (A2)))) A2 A1) else (none)) else (impl_TableOk.j0 k true A2 A1))
set_option maxHeartbeats 80000000 in
set_option maxRecDepth 100000 in
theorem impl_TableOk.calls (k:Nat) (A2:Int) (A1:ByteArray) (r:Bool) (w:World) (h:impl_TableOk.f k A2 A1=some r) :
  Calls Try.prog 106 #[.agg #[.int .i64 A2,.string A1]] w fun e w'=>e = .returned (.bool r)∧Below w.heap.size w w':=by
 have hu29:=Try.underlying29;have HB:=Aside0.mk (Below.refl w.heap.size w);have H:((impl_within.f A2 0 12).bind fun A6=>(if A6=true then (if 0≤(IntKind.u64.wrap (A2)) then (impl_TableOk.j0 k ((A1.size:Int) != (shl .i64 1 (IntKind.u64.wrap (A2)))) A2 A1) else (none)) else (impl_TableOk.j0 k true A2 A1)))=some r:=h;clear h;have HC2:=Aside0.mk H;clear H
 go_enter Try.func106,Try.ntmps106
 go_upto_region 1 with (first|((with_reducible refine gate_dst (N:=1) rfl ?_);(try (refine gate_guard (by rfl) ?_;dsimp only));refine bx (N:=1) (cs:=#[.int .i64 A2,.string A1]) (t:=29) ?_;intro A7 hg w3 hbox hb;have A3:=Aside0.mk (hbox);have GW101:=bz0 hg HB;have GE101:=bz0 hg HB;replace HB:=bs0 HB hb;clear hb hbox hg))
 (try simp only [Act.put,List.setIfInBounds_toArray,List.set_cons_zero,List.set_cons_succ])
 go_cut [17] (fun v17 wc=>∃ (kq:Nat) (A5:Bool),v17 = .bool A5∧Aside0 (impl_TableOk.j0 kq A5 A2 A1=some r)∧Aside0 (kq≤k)∧Aside0 (wc.heap[A7]? = some (.cells #[.int .i64 A2,.string A1] 29 (0,0)))∧Aside0 (Below w.heap.size w wc))
 case first =>
  have H:=HC2.out;clear HC2;replace H:=ob H;obtain ⟨A6,A40,H⟩:=H;replace H:(if A6=true then (if 0≤(IntKind.u64.wrap (A2)) then (impl_TableOk.j0 k ((A1.size:Int) != (shl .i64 1 (IntKind.u64.wrap (A2)))) A2 A1) else (none)) else (impl_TableOk.j0 k true A2 A1))=some r:=H;have A4:=Aside0.mk A40;clear A40
  by_cases c5:A6=true
  ·subst c5
   have H1:(if 0≤(IntKind.u64.wrap (A2)) then (impl_TableOk.j0 k ((A1.size:Int) != (shl .i64 1 (IntKind.u64.wrap (A2)))) A2 A1) else (none))=some r:=by rw [if_pos rfl] at H;exact H
   clear H;have H:=H1;clear H1;obtain ⟨ji6,hji6⟩:∃ j_:Int,(IntKind.u64.wrap (A2))=j_:=⟨_,rfl⟩
   replace H:(if 0≤(ji6) then (impl_TableOk.j0 k ((A1.size:Int) != (shl .i64 1 (ji6))) A2 A1) else (none))=some r:=by first|(rw [hji6] at H;exact H)|(simp only [hji6] at H ⊢;exact H)
   (try rw [hji6] at A4)
   by_cases c7:0≤(ji6)
   ·rw [if_pos c7] at H;have c7b0:=eq_true c7;have c7b1:decide (0≤(ji6))=true:=decide_eq_true c7;clear c7;obtain ⟨ji8,hji8⟩:∃ j_:Int,(shl .i64 1 (ji6))=j_:=⟨_,rfl⟩
    replace H:(impl_TableOk.j0 k ((A1.size:Int) != (ji8)) A2 A1)=some r:=by first|(rw [hji8] at H;exact H)|(simp only [hji8] at H ⊢;exact H)
    (try rw [hji8] at A4)
    have hji8_:(IntKind.i64.wrap (1 * 2 ^ min (ji6).toNat 64))=ji8:=hji8;have hji8z:(ji6)≤64→(IntKind.i64.wrap (1 * 2 ^ (ji6).toNat))=ji8:=shl_small hji8
    have hji8u:(IntKind.i64.wrap (2 ^ min (ji6).toNat 64))=ji8:=by have h_:=hji8_;rw [Int.one_mul] at h_;exact h_
    have hji8v:(ji6)≤64→(IntKind.i64.wrap (2 ^ (ji6).toNat))=ji8:=fun hle_=>by have h_:=hji8z hle_;rw [Int.one_mul] at h_;exact h_
    have hji8y:(wrap64 (1 * 2 ^ min (ji6).toNat 64))=ji8:=(i64_w _).symm.trans hji8_
    have hji8x:(ji6)≤64→(wrap64 (1 * 2 ^ (ji6).toNat))=ji8:=fun h_=>(i64_w _).symm.trans (hji8z h_)
    have H':=Aside0.mk H;clear H;have hcz9__:=c2_ A3;have hfz9__:=f_ A3;go_wp2_with (first|((with_reducible refine gate_callee (f:=64) rfl ?_);refine goesL_ (some 6) rfl rfl Try.func64 (by kernel_rfl) rfl #[.int .i64 A2,.int .i64 0,.int .i64 12] rfl ml ?_;(with_reducible refine (impl_within.calls A2 0 12 true _ A4.out).mono ?_);rintro e w' ⟨rfl,⟨nd,rfl⟩⟩;refine ⟨_,rfl,?_⟩));go_meet
    case rel=>exact ⟨_,(((A1.size:Int) != (ji8))),(by first|rfl|(simp;done)|(simp only [← hji8] <;> (first|rfl|simp))|(simp [*];done)),(by first|exact H'|(rw [hji8];exact H')),⟨by first|omega|exact Nat.le_refl _⟩,⟨dr A3⟩,⟨by exact tb HB⟩⟩
   ·rw [if_neg c7] at H;exact absurd H (by simp)
  ·replace c5:=Bool.eq_false_iff.mpr c5;subst c5
   have H1:(impl_TableOk.j0 k true A2 A1)=some r:=by rw [if_neg (show ¬ (false=true) by decide)] at H;exact H
   clear H;have H:=H1;clear H1;have H':=Aside0.mk H;clear H;have hcz10__:=c2_ A3;have hfz10__:=f_ A3;go_wp2_with (first|((with_reducible refine gate_callee (f:=64) rfl ?_);refine goesL_ (some 6) rfl rfl Try.func64 (by kernel_rfl) rfl #[.int .i64 A2,.int .i64 0,.int .i64 12] rfl ml ?_;(with_reducible refine (impl_within.calls A2 0 12 false _ A4.out).mono ?_);rintro e w' ⟨rfl,⟨nd,rfl⟩⟩;refine ⟨_,rfl,?_⟩));go_meet
   case rel=>exact ⟨_,(true),(by first|rfl|(simp;done)|(simp [*];done)),(by first|exact H'|(rw [hji8];exact H')),⟨by first|omega|exact Nat.le_refl _⟩,⟨dr A3⟩,⟨by exact tb HB⟩⟩
 case rest =>
  clear HC2;(try clear c1);(try clear p2);(try clear c5);(try clear c6);(try clear p6);(try clear c7);(try clear c7b0);(try clear c7b1);(try clear c10);(try clear hcz10__);(try clear hcz9__);(try clear hfz10__);(try clear hfz9__);obtain ⟨kq,A5,rfl,HA,HJ1,A3,HB⟩:=hcut
  cases kq with
    | zero=>exact absurd HA.out (by simp [impl_TableOk.j0])
    | succ kj1 =>
   have H:=HA.out;clear HA;simp only [impl_TableOk.j0] at H
   by_cases c11:A5=true
   ·subst c11
    have H1:(some false)=some r:=by rw [if_pos rfl] at H;exact H
    clear H;have H:=H1;clear H1;obtain rfl:=os H;go_wp2;go_ret;exact ⟨er,tb HB⟩
   ·replace c11:=Bool.eq_false_iff.mpr c11;subst c11
    have H1:(impl_TableOk.l0 kj1 (A1.size:Int) 0 A2 A1)=some r:=by rw [if_neg (show ¬ (false=true) by decide)] at H;exact H
    clear H;have H:=H1;clear H1;have H':=Aside0.mk H;clear H;have hcz12__:=c2_ A3;have hfz12__:=f_ A3;go_wp2
    go_loopg [21] kj1 (fun kq v21 w'=>∃ (A0:Int),v21 = .int .i64 A0∧Aside0 (impl_TableOk.l0 kq (A1.size:Int) A0 A2 A1=some r)∧Aside0 (kq≤kj1)∧Aside0 (w'.heap[A7]? = some (.cells #[.int .i64 A2,.string A1] 29 (0,0)))∧Aside0 (Below w.heap.size w w'))
    case atStart=>exact ⟨(0),(by first|rfl|(simp;done)|(simp [*];done)),H',⟨Nat.le_refl _⟩,⟨dr A3⟩,⟨by exact tb HB⟩⟩
    case round =>
     clear H';(try clear c1);(try clear p2);(try clear c5);(try clear c6);(try clear p6);(try clear c7);(try clear c7b0);(try clear c7b1);(try clear c10);(try clear c11);(try clear hcz10__);(try clear hcz12__);(try clear hcz9__);(try clear hfz10__);(try clear hfz12__);(try clear hfz9__);(try clear p2);(try clear p6);obtain ⟨A0,rfl,HA,HK2,A3,HB⟩:=hrel
     cases gk with
          | zero=>exact absurd HA.out (by simp [impl_TableOk.l0])
          | succ k2 =>
      have H:=HA.out;clear HA;simp only [impl_TableOk.l0] at H
      by_cases c13:A0 < (A1.size:Int)
      ·rw [if_pos c13] at H;have c13b0:decide (A0 < (A1.size:Int))=true:=decide_eq_true c13;clear c13
       by_cases c14:0≤A0
       ·rw [if_pos c14] at H;have c14b0:decide (0≤A0)=true:=decide_eq_true c14;clear c14
        by_cases c15:A0 < (A1.size:Int)
        ·rw [if_pos c15] at H;have c15b0:decide (A0 < (A1.size:Int))=true:=decide_eq_true c15;clear c15
         by_cases c17:(bt A1 A0)=48
         ·rw [if_pos c17] at H;have c17b0:((bt A1 A0) == 48)=true:=beq_iff_eq.mpr c17;have c17b1:((bt A1 A0) != 48)=false:=bne_eq_false_iff_eq.mpr c17;clear c17;have H':=Aside0.mk H;clear H;have hcz18__:=c2_ A3;have hfz18__:=f_ A3;have p16:0≤(A0:Int):=od;have q16:A0 < (A1.size:Int):=od;have hx16:=bt_at A1 A0;replace p16:=eq_true p16;replace q16:=eq_true q16;go_wp2;go_roundg k2
          case measure=>have:=HJ1.out;have:=HK2.out;omega
          case rel=>exact ⟨(wrap64 (A0 + 1)),(by first|rfl|(simp;done)|(simp [*];done)),(by first|exact H'|(rw [hji8];exact H')),⟨by have:=HJ1.out;have:=HK2.out;omega⟩,⟨dr A3⟩,⟨by exact tb HB⟩⟩
         ·rw [if_neg c17] at H;have c17b0:((bt A1 A0) == 48)=false:=beq_eq_false_iff_ne.mpr c17;have c17b1:((bt A1 A0) != 48)=true:=bne_iff_ne.mpr c17
          by_cases c20:(bt A1 A0)=49
          ·rw [if_pos c20] at H;have c20b0:((bt A1 A0) == 49)=true:=beq_iff_eq.mpr c20;have c20b1:((bt A1 A0) != 49)=false:=bne_eq_false_iff_eq.mpr c20;clear c20;have H':=Aside0.mk H;clear H;have hcz21__:=c2_ A3;have hfz21__:=f_ A3;have p16:0≤(A0:Int):=od;have q16:A0 < (A1.size:Int):=od;have hx16:=bt_at A1 A0;replace p16:=eq_true p16;replace q16:=eq_true q16;have p19:0≤(A0:Int):=od;have q19:A0 < (A1.size:Int):=od;have hx19:=bt_at A1 A0;replace p19:=eq_true p19;replace q19:=eq_true q19;go_wp2;go_roundg k2
           case measure=>have:=HJ1.out;have:=HK2.out;omega
           case rel=>exact ⟨(wrap64 (A0 + 1)),(by first|rfl|(simp;done)|(simp [*];done)),(by first|exact H'|(rw [hji8];exact H')),⟨by have:=HJ1.out;have:=HK2.out;omega⟩,⟨dr A3⟩,⟨by exact tb HB⟩⟩
          ·rw [if_neg c20] at H;have c20b0:((bt A1 A0) == 49)=false:=beq_eq_false_iff_ne.mpr c20;have c20b1:((bt A1 A0) != 49)=true:=bne_iff_ne.mpr c20;obtain rfl:=os H;have hcz22__:=c2_ A3;have hfz22__:=f_ A3;have p16:0≤(A0:Int):=od;have q16:A0 < (A1.size:Int):=od;have hx16:=bt_at A1 A0;replace p16:=eq_true p16;replace q16:=eq_true q16;have p19:0≤(A0:Int):=od;have q19:A0 < (A1.size:Int):=od;have hx19:=bt_at A1 A0;replace p19:=eq_true p19;replace q19:=eq_true q19;go_wp2;go_ret;exact ⟨er,tb HB⟩
        ·rw [if_neg c15] at H;exact absurd H (by simp)
       ·rw [if_neg c14] at H;exact absurd H (by simp)
      ·rw [if_neg c13] at H;have c13b0:decide (A0 < (A1.size:Int))=false:=decide_eq_false c13;clear c13;obtain rfl:=os H;go_wp2;go_ret;exact ⟨er,tb HB⟩
end Go.Proofs.Ytlpfmhikahlcoaa.G
namespace Go.Proofs.Ytlpfmhikahlcoaa.G
open Go.Proofs.Ytlpfmhikahlcoaa.Sh
open Go.RowKit Go.Proofs.YtlpfmhikahlcoaaW.PrintWords Go.Proofs.YtlpfmhikahlcoaaW.PrintLast Go.Proofs.YtlpfmhikahlcoaaW.PrintMore
attribute [local go_sem] max2_int min2_int max_two min_two max_three min_three max_four min_four
set_option linter.unusedVariables false
set_option linter.unusedSimpArgs false
def impl_rowed.f (k:Nat) (l0:List Bool) (a1_0:Int) (a1_1:ByteArray):Option (Bool):=(impl_TableOk.f k a1_0 a1_1).bind fun A4=>(if A4=true then (some ((l0.length:Int) == a1_0)) else (some false))
set_option maxHeartbeats 8000000 in
set_option maxRecDepth 100000 in
theorem impl_rowed.calls (k:Nat) (A0:Option Addr) (c0:Nat) (l0:List Bool) (a1_0:Int) (a1_1:ByteArray) (r:Bool) (w:World) (hr0:Kd.C Kd.bool w A0 l0.length l0) (hc0:l0.length≤c0) (h:impl_rowed.f k l0 a1_0 a1_1=some r) :
  Calls Try.prog 59 #[.slice A0 l0.length c0,.agg #[.int .i64 a1_0,.string a1_1]] w fun e w'=>e = .returned (.bool r)∧Below w.heap.size w w':=by
 have hu29:=Try.underlying29;have HR0:=Aside0.mk hr0;have HC0:=Aside0.mk hc0;clear hr0 hc0;have HB:=Aside0.mk (Below.refl w.heap.size w);have H:((impl_TableOk.f k a1_0 a1_1).bind fun A4=>(if A4=true then (some ((l0.length:Int) == a1_0)) else (some false)))=some r:=h;clear h;replace H:=ob H;obtain ⟨A4,A30,H⟩:=H;replace H:(if A4=true then (some ((l0.length:Int) == a1_0)) else (some false))=some r:=H;have A3:=Aside0.mk A30;clear A30
 by_cases c4:A4=true
 ·subst c4
  have H1:(some ((l0.length:Int) == a1_0))=some r:=by rw [if_pos rfl] at H;exact H
  clear H;have H:=H1;clear H1;obtain rfl:=os H
  go_enter Try.func59,Try.ntmps59
  go_wp2_with (first|((with_reducible refine gate_dst (N:=3) rfl ?_);(try (refine gate_guard (by rfl) ?_;dsimp only));refine bx (N:=3) (cs:=#[.int .i64 a1_0,.string a1_1]) (t:=29) ?_;intro A2 hg w5 hbox hb;have A1:=Aside0.mk (hbox);have A5:=Aside0.mk ((by rw [hg];exact (below_size (tb HB)):w.heap.size≤A2));have A6:=Aside0.mk ((by rw [hg];exact (below_size (tb HB)):w.heap.size≤A2));replace HB:=Aside0.mk (below_step (tb HB) hb);clear hb hbox hg;have hcz6__:=c2_ A1;have hfz6__:=f_ A1)|((with_reducible refine gate_callee (f:=106) rfl ?_);refine goesL_ (some 6) rfl rfl Try.func106 (by kernel_rfl) rfl #[.agg #[.int .i64 a1_0,.string a1_1]] rfl ml ?_;(with_reducible refine (impl_TableOk.calls k a1_0 a1_1 true _ A3.out).mono ?_);rintro e w7 ⟨rfl,hb⟩;refine ⟨_,rfl,?_⟩;replace A1:=Aside0.mk (blk_below (g:=A2) (o := .cells #[.int .i64 a1_0,.string a1_1] 29 (0,0)) (dr A1) hb);replace HB:=Aside0.mk (below_step (tb HB) hb);(try clear hb);(try clear hb2);(try clear hk);(try clear hi);have hcz8__:=c2_ A1;have hfz8__:=f_ A1));go_ret;exact ⟨er,tb HB⟩
 ·replace c4:=Bool.eq_false_iff.mpr c4;subst c4
  have H1:(some false)=some r:=by rw [if_neg (show ¬ (false=true) by decide)] at H;exact H
  clear H;have H:=H1;clear H1;obtain rfl:=os H
  go_enter Try.func59,Try.ntmps59
  go_wp2_with (first|((with_reducible refine gate_dst (N:=3) rfl ?_);(try (refine gate_guard (by rfl) ?_;dsimp only));refine bx (N:=3) (cs:=#[.int .i64 a1_0,.string a1_1]) (t:=29) ?_;intro A2 hg w9 hbox hb;have A1:=Aside0.mk (hbox);have A5:=Aside0.mk ((by rw [hg];exact (below_size (tb HB)):w.heap.size≤A2));have A6:=Aside0.mk ((by rw [hg];exact (below_size (tb HB)):w.heap.size≤A2));replace HB:=Aside0.mk (below_step (tb HB) hb);clear hb hbox hg;have hcz10__:=c2_ A1;have hfz10__:=f_ A1)|((with_reducible refine gate_callee (f:=106) rfl ?_);refine goesL_ (some 6) rfl rfl Try.func106 (by kernel_rfl) rfl #[.agg #[.int .i64 a1_0,.string a1_1]] rfl ml ?_;(with_reducible refine (impl_TableOk.calls k a1_0 a1_1 false _ A3.out).mono ?_);rintro e w11 ⟨rfl,hb⟩;refine ⟨_,rfl,?_⟩;replace A1:=Aside0.mk (blk_below (g:=A2) (o := .cells #[.int .i64 a1_0,.string a1_1] 29 (0,0)) (dr A1) hb);replace HB:=Aside0.mk (below_step (tb HB) hb);(try clear hb);(try clear hb2);(try clear hk);(try clear hi)));go_ret;exact ⟨er,tb HB⟩
def impl_Decide.f (k:Nat) (l0:List Bool) (a1_0:Int) (a1_1:ByteArray):Option (Int × Bool):=(impl_rowed.f k l0 a1_0 a1_1).bind fun A6=>(if A6=true then ((impl_decide.f k l0 a1_0 a1_1).bind fun A4=>(some (A4,true))) else (some (0,false)))
set_option maxHeartbeats 8000000 in
set_option maxRecDepth 100000 in
theorem impl_Decide.calls (k:Nat) (A0:Option Addr) (c0:Nat) (l0:List Bool) (a1_0:Int) (a1_1:ByteArray) (r1:Int) (r2:Bool) (w:World) (hr0:Kd.C Kd.bool w A0 l0.length l0) (hc0:l0.length≤c0) (h:impl_Decide.f k l0 a1_0 a1_1=some (r1,r2)) :
  Calls Try.prog 19 #[.slice A0 l0.length c0,.agg #[.int .i64 a1_0,.string a1_1]] w fun e w'=>e = .returned (.tuple #[.int .i64 r1,.bool r2])∧Below w.heap.size w w':=by
 have hu29:=Try.underlying29;have HR0:=Aside0.mk hr0;have HC0:=Aside0.mk hc0;clear hr0 hc0;have HB:=Aside0.mk (Below.refl w.heap.size w);have H:((impl_rowed.f k l0 a1_0 a1_1).bind fun A6=>(if A6=true then ((impl_decide.f k l0 a1_0 a1_1).bind fun A4=>(some (A4,true))) else (some (0,false))))=some (r1,r2):=h;clear h;replace H:=ob H;obtain ⟨A6,A30,H⟩:=H;replace H:(if A6=true then ((impl_decide.f k l0 a1_0 a1_1).bind fun A4=>(some (A4,true))) else (some (0,false)))=some (r1,r2):=H;have A3:=Aside0.mk A30;clear A30
 by_cases c4:A6=true
 ·subst c4
  have H1:((impl_decide.f k l0 a1_0 a1_1).bind fun A4=>(some (A4,true)))=some (r1,r2):=by rw [if_pos rfl] at H;exact H
  clear H;have H:=H1;clear H1;replace H:=ob H;obtain ⟨A4,A50,H⟩:=H;replace H:(some (A4,true))=some (r1,r2):=H;have A5:=Aside0.mk A50;clear A50;simp only [Option.some.injEq,Prod.mk.injEq] at H;obtain ⟨rfl,rfl⟩:=H
  go_enter Try.func19,Try.ntmps19
  go_wp2_with (first|((with_reducible refine gate_dst (N:=3) rfl ?_);refine bx (N:=3) (cs:=#[.int .i64 a1_0,.string a1_1]) (t:=29) ?_;intro A2 hg w6 hbox hb;have A1:=Aside0.mk (hbox);have A7:=Aside0.mk ((by rw [hg];exact (below_size (tb HB)):w.heap.size≤A2));have A8:=Aside0.mk ((by rw [hg];exact (below_size (tb HB)):w.heap.size≤A2));replace HB:=Aside0.mk (below_step (tb HB) hb);clear hb hbox hg;have hcz7__:=c2_ A1;have hfz7__:=f_ A1)|((with_reducible refine gate_callee (f:=59) rfl ?_);refine goesL_ (some 8) rfl rfl Try.func59 (by kernel_rfl) rfl #[.slice A0 l0.length c0,.agg #[.int .i64 a1_0,.string a1_1]] rfl ml ?_;(with_reducible refine (impl_rowed.calls k _ _ l0 a1_0 a1_1 true _ ?side1 ?side2 A3.out).mono ?_);(case side1=>exact cw (Kd.C_below HR0.out HB.out));(case side2=>exact HC0.out);rintro e w8 ⟨rfl,hb⟩;refine ⟨_,rfl,?_⟩;replace A1:=Aside0.mk (blk_below (g:=A2) (o := .cells #[.int .i64 a1_0,.string a1_1] 29 (0,0)) (dr A1) hb);replace HB:=Aside0.mk (below_step (tb HB) hb);(try clear hb);(try clear hb2);(try clear hk);(try clear hi);have hcz9__:=c2_ A1;have hfz9__:=f_ A1)|((with_reducible refine gate_callee (f:=60) rfl ?_);refine goesL_ (some 12) rfl rfl Try.func60 (by kernel_rfl) rfl #[.slice A0 l0.length c0,.agg #[.int .i64 a1_0,.string a1_1]] rfl ml ?_;(with_reducible refine (impl_decide.calls k _ _ l0 a1_0 a1_1 A4 _ ?side1 ?side2 A5.out).mono ?_);(case side1=>exact cw (Kd.C_below HR0.out HB.out));(case side2=>exact HC0.out);rintro e w10 ⟨rfl,hb⟩;refine ⟨_,rfl,?_⟩;replace A1:=Aside0.mk (blk_below (g:=A2) (o := .cells #[.int .i64 a1_0,.string a1_1] 29 (0,0)) (dr A1) hb);replace HB:=Aside0.mk (below_step (tb HB) hb);(try clear hb);(try clear hb2);(try clear hk);(try clear hi)));go_ret2;exact ⟨er,tb HB⟩
 ·replace c4:=Bool.eq_false_iff.mpr c4;subst c4
  have H1:(some (0,false))=some (r1,r2):=by rw [if_neg (show ¬ (false=true) by decide)] at H;exact H
  clear H;have H:=H1;clear H1;simp only [Option.some.injEq,Prod.mk.injEq] at H;obtain ⟨rfl,rfl⟩:=H
  go_enter Try.func19,Try.ntmps19
  go_wp2_with (first|((with_reducible refine gate_dst (N:=3) rfl ?_);refine bx (N:=3) (cs:=#[.int .i64 a1_0,.string a1_1]) (t:=29) ?_;intro A2 hg w11 hbox hb;have A1:=Aside0.mk (hbox);have A7:=Aside0.mk ((by rw [hg];exact (below_size (tb HB)):w.heap.size≤A2));have A8:=Aside0.mk ((by rw [hg];exact (below_size (tb HB)):w.heap.size≤A2));replace HB:=Aside0.mk (below_step (tb HB) hb);clear hb hbox hg;have hcz12__:=c2_ A1;have hfz12__:=f_ A1)|((with_reducible refine gate_callee (f:=59) rfl ?_);refine goesL_ (some 8) rfl rfl Try.func59 (by kernel_rfl) rfl #[.slice A0 l0.length c0,.agg #[.int .i64 a1_0,.string a1_1]] rfl ml ?_;(with_reducible refine (impl_rowed.calls k _ _ l0 a1_0 a1_1 false _ ?side1 ?side2 A3.out).mono ?_);(case side1=>exact cw (Kd.C_below HR0.out HB.out));(case side2=>exact HC0.out);rintro e w13 ⟨rfl,hb⟩;refine ⟨_,rfl,?_⟩;replace A1:=Aside0.mk (blk_below (g:=A2) (o := .cells #[.int .i64 a1_0,.string a1_1] 29 (0,0)) (dr A1) hb);replace HB:=Aside0.mk (below_step (tb HB) hb);(try clear hb);(try clear hb2);(try clear hk);(try clear hi)));go_ret2;exact ⟨er,tb HB⟩
mutual
def impl_Owner.j0:Nat→List Bool→Int→List Bool→Bool→Option (List Bool)
 | 0,_,_,_,_=>none
 | k + 1,x0,x1,x5,x14=>if x14=true then (some x5) else (impl_Owner.l0 k x1 x5 x0 (x0.length:Int) 0)
def impl_Owner.l0:Nat→Int→List Bool→List Bool→Int→Int→Option (List Bool)
 | 0,_,_,_,_,_=>none
 | k + 1,x1,x5,x16,x17,x18=>if x18 < x17 then (if 0≤x18 then (if x18 < (x16.length:Int) then (if x5.length < 140737488355328 then (impl_Owner.l0 k x1 (x5 ++ [((rdOf false x16 x18) == (x1 == 0))]) x16 x17 (wrap64 (x18 + 1))) else (none)) else (none)) else (none)) else (some x5)
end
def impl_Owner.f (k:Nat) (l0:List Bool) (a1:Int):Option (List Bool):=(some (([]:List Bool):List Bool)).bind fun y101=>(if a1=0 then (impl_Owner.j0 k l0 a1 y101 false) else (impl_Owner.j0 k l0 a1 y101 (a1 != 1)))
set_option maxHeartbeats 8000000 in
set_option maxRecDepth 100000 in
theorem impl_Owner.calls (k:Nat) (A0:Option Addr) (c0:Nat) (l0:List Bool) (a1:Int) (r:List Bool) (w:World) (hr0:Kd.C Kd.bool w A0 l0.length l0) (hc0:l0.length≤c0) (h:impl_Owner.f k l0 a1=some r) :
  Calls Try.prog 90 #[.slice A0 l0.length c0,.int .i64 a1] w fun e w'=>∃ v0_:Value,e = .returned (v0_)∧Kd.R Kd.bool 4 w' w.heap.size (fun _=>True) v0_ r∧Below w.heap.size w w':=by
 have HR0:=Aside0.mk hr0;have HC0:=Aside0.mk hc0;clear hr0 hc0;have HB:=Aside0.mk (Below.refl w.heap.size w);have H:((some (([]:List Bool):List Bool)).bind fun y101=>(if a1=0 then (impl_Owner.j0 k l0 a1 y101 false) else (impl_Owner.j0 k l0 a1 y101 (a1 != 1))))=some r:=h;clear h;obtain ⟨y101,hy101⟩:∃ y_:List Bool,y_=(([]:List Bool)):=⟨_,rfl⟩
 replace H:(if a1=0 then (impl_Owner.j0 k l0 a1 y101 false) else (impl_Owner.j0 k l0 a1 y101 (a1 != 1)))=some r:=by first|(rw [hy101];with_reducible exact H)|(have H2_:=(Option.bind_some _ _).symm.trans H;rw [hy101];with_reducible exact H2_)|(have H2_:=(Option.bind_some _ _).symm.trans H;with_reducible exact H2_)|with_reducible exact H|(rw [hy101];exact H)|exact H
 have Ny101:=Aside0.mk hy101;clear hy101;have HC3:=Aside0.mk H;clear H
 go_enter Try.func90,Try.ntmps90
 go_upto_region 2 with (first|((with_reducible refine gate_dst (N:=8) rfl ?_);refine Kd.R_lit Kd.bool _ 4 ?hg (N:=8) ?hd (xs:=([]:List Bool)) (inner:=[]) (ok:=fun _=>True) (okp:=fun _=>True) ?hr ?hp (fun _ hk=>hk) trivial (Below.refl _ _) (Nat.le_refl _) (by simp) ?_;(case hd=>rfl);(case hg=>rfl);(case hr=>first|(go_simp;done)|(go_simp;rfl));(case hp=>exact (Reps.none _ _));intro v102 w4 ho5 hb hg_ hnew_;clear hg_ hnew_;(first|rw [← Ny101.out] at ho5|(simp only [Int.reduceToNat] at ho5;rw [← Ny101.out] at ho5));have A5:=Aside0.mk (Kd.R_lower ho5 (below_size (tb HB)));replace HB:=Aside0.mk (below_step (tb HB) hb);clear hb ho5))
 (try simp only [Act.put,List.setIfInBounds_toArray,List.set_cons_zero,List.set_cons_succ])
 go_cut [14] (fun v14 wc=>∃ (kq:Nat) (A2:Bool),v14 = .bool A2∧Aside0 (impl_Owner.j0 kq l0 a1 y101 A2=some r)∧Aside0 (kq≤k)∧Aside0 (Kd.R Kd.bool 4 wc w.heap.size (fun _=>True) v102 y101)∧Aside0 (Below w.heap.size w wc))
 case first =>
  have H:=HC3.out;clear HC3
  by_cases c6:a1=0
  ·rw [if_pos c6] at H;have c6b0:(a1 == 0)=true:=beq_iff_eq.mpr c6;have c6b1:(a1 != 0)=false:=bne_eq_false_iff_eq.mpr c6;clear c6;(first|rw [c6b0]|(simp only [i64_w,i32_w];rw [c6b0])|skip);have H':=Aside0.mk H;clear H;go_wp2;go_meet
   case rel=>exact ⟨_,(false),(by first|rfl|(simp;done)|(simp [*];done)),H',⟨by first|omega|exact Nat.le_refl _⟩,⟨ra A5⟩,⟨by exact tb HB⟩⟩
  ·rw [if_neg c6] at H;have c6b0:(a1 == 0)=false:=beq_eq_false_iff_ne.mpr c6;have c6b1:(a1 != 0)=true:=bne_iff_ne.mpr c6;(first|rw [c6b0]|(simp only [i64_w,i32_w];rw [c6b0])|skip);have H':=Aside0.mk H;clear H;go_wp2;go_meet
   case rel=>exact ⟨_,((a1 != 1)),(by first|rfl|(simp;done)|(simp [*];done)),H',⟨by first|omega|exact Nat.le_refl _⟩,⟨ra A5⟩,⟨by exact tb HB⟩⟩
 case rest =>
  clear HC3;(try clear p2);(try clear c6);(try clear c6b0);(try clear c6b1);obtain ⟨kq,A2,rfl,HA,HJ2,A3,HB⟩:=hcut
  cases kq with
  | zero=>exact absurd HA.out (by simp [impl_Owner.j0])
  | succ kj2 =>
   have H:=HA.out;clear HA;simp only [impl_Owner.j0] at H
   by_cases c7:A2=true
   ·subst c7
    have H1:(some y101)=some r:=by rw [if_pos rfl] at H;exact H
    clear H;have H:=H1;clear H1;obtain rfl:=os H;go_wp2;go_ret;exact ⟨_,er,ra A3,tb HB⟩
   ·replace c7:=Bool.eq_false_iff.mpr c7;subst c7
    have H1:(impl_Owner.l0 kj2 a1 y101 l0 (l0.length:Int) 0)=some r:=by rw [if_neg (show ¬ (false=true) by decide)] at H;exact H
    clear H;have H:=H1;clear H1;have H':=Aside0.mk H;clear H;go_wp2
    go_loopg [5,18] kj2 (fun kq v5 v18 w'=>∃ (A4:List Bool) (A1:Int),v18 = .int .i64 A1∧Aside0 (impl_Owner.l0 kq a1 A4 l0 (l0.length:Int) A1=some r)∧Aside0 (kq≤kj2)∧Aside0 (Kd.R Kd.bool 4 w' w.heap.size (fun _=>True) v5 A4)∧Aside0 (Below w.heap.size w w'))
    case atStart=>exact ⟨(y101),(0),(by first|rfl|(simp;done)|(simp [*];done)),H',⟨Nat.le_refl _⟩,⟨ra A3⟩,⟨by exact tb HB⟩⟩
    case round =>
     clear H';(try clear p2);(try clear c6);(try clear c6b0);(try clear c6b1);(try clear c7);(try clear p2);obtain ⟨A4,A1,rfl,HA,HK2,A3,HB⟩:=hrel
     cases gk with
     | zero=>exact absurd HA.out (by simp [impl_Owner.l0])
     | succ k2 =>
      have H:=HA.out;clear HA;simp only [impl_Owner.l0] at H
      by_cases c8:A1 < (l0.length:Int)
      ·rw [if_pos c8] at H;have c8b0:decide (A1 < (l0.length:Int))=true:=decide_eq_true c8;clear c8
       by_cases c9:0≤A1
       ·rw [if_pos c9] at H;have c9b0:decide (0≤A1)=true:=decide_eq_true c9;clear c9
        by_cases c10:A1 < (l0.length:Int)
        ·rw [if_pos c10] at H;have c10b0:decide (A1 < (l0.length:Int))=true:=decide_eq_true c10;clear c10
         by_cases c11:A4.length < 140737488355328
         ·rw [if_pos c11] at H;have LMc11:=Aside0.mk c11;clear c11;obtain ⟨y105,hy105⟩:∃ y_:List Bool,y_=(A4 ++ [((rdOf false l0 A1) == (a1 == 0))]):=⟨_,rfl⟩
          replace H:(impl_Owner.l0 k2 a1 y105 l0 (l0.length:Int) (wrap64 (A1 + 1)))=some r:=by first|(rw [hy105];with_reducible exact H)|(have H2_:=(Option.bind_some _ _).symm.trans H;rw [hy105];with_reducible exact H2_)|(have H2_:=(Option.bind_some _ _).symm.trans H;with_reducible exact H2_)|with_reducible exact H|(rw [hy105];exact H)|exact H
          have Ny105:=Aside0.mk hy105;clear hy105;have H':=Aside0.mk H;clear H;have p104:0≤(A1:Int):=od;have q104:A1 < (l0.length:Int):=od;obtain ⟨ad104,e104,hx104_0⟩:=Kd.at_bool HR0.out A1 p104 q104;cases e104;replace hx104_0:=ct HB hx104_0;replace p104:=eq_true p104;replace q104:=eq_true q104;go_wp2_with (first|((with_reducible refine gate_builtin (b := .append) (xs:=#[.tmp 22,.tmp 27]) rfl ?_);at_builtin;refine Kd.R_append Kd.bool (w0:=w) w.heap.size rfl (.tmp 22) (.tmp 27) 22 4 (.bool false) 1 rfl Try.underlying22 info4 rfl (by decide) (by omega) u5 A4 ((rdOf false l0 A1) == (a1 == 0)) [.bool ((rdOf false l0 A1) == (a1 == 0))] (fun _=>True) (fun _=>False) rfl rfl ?aP (fun _ hk=>hk.elim) ?aF ?aO ?aB ?aS ?aL ?_;(case aP=>exact rfl);(case aB=>exact (tb HB));(case aF=>exact (fun _ _=>trivial));(case aO=>exact (ra A3));(case aS=>exact (below_size (tb HB)));(case aL=>have:=LMc11.out;omega);intro v106 w12 ho hb hg hat;rw [← Ny105.out] at ho;replace HB:=Aside0.mk (hb);have A6:=Aside0.mk (ho);clear A3;clear ho hb hg hat));go_roundg k2
          case measure=>have:=HJ2.out;have:=HK2.out;omega
          case rel=>exact ⟨(y105),(wrap64 (A1 + 1)),(by first|rfl|(simp;done)|(simp [*];done)),H',⟨by have:=HJ2.out;have:=HK2.out;omega⟩,⟨ra A6⟩,⟨by exact tb HB⟩⟩
         ·rw [if_neg c11] at H;exact absurd H (by simp)
        ·rw [if_neg c10] at H;exact absurd H (by simp)
       ·rw [if_neg c9] at H;exact absurd H (by simp)
      ·rw [if_neg c8] at H;have c8b0:decide (A1 < (l0.length:Int))=false:=decide_eq_false c8;clear c8;obtain rfl:=os H;go_wp2;go_ret;exact ⟨_,er,ra A3,tb HB⟩
theorem nil_S {w:World} {base:Nat} {A:Option Addr} {n c:Nat} (h:Kd.R k108 108 w base (fun _=>True) (.slice A n c) []):Kd.S k108 108 w base (fun _=>True) (.slice A n c) []:=by
 obtain ⟨h0,inner,ho,hr⟩:=h;exact ⟨fun _=>0,h0,inner,ho,⟨hr.1,fun j p hj=>by simp at hj⟩⟩
def impl_Win.f (k:Nat) (l0:List Bool) (a1_0:Int) (a1_1:ByteArray):Option (List (S108) × Int × Bool) :=
 (impl_Decide.f k l0 a1_0 a1_1).bind fun bt=>if bt.2=true then (impl_Owner.f k l0 bt.1).bind fun owns=>(wkF k l0 owns a1_0 a1_1 [] []).bind fun L=>some (L,bt.1,true) else some ([],0,false)
set_option maxHeartbeats 8000000 in
set_option maxRecDepth 100000 in
theorem impl_Win.calls (k:Nat) (A0:Option Addr) (c0:Nat) (l0:List Bool) (a1_0:Int) (a1_1:ByteArray) (r1:List (S108)) (r2:Int) (r3:Bool) (w:World) (hr0:Kd.C Kd.bool w A0 l0.length l0) (hc0:l0.length≤c0) (h:impl_Win.f k l0 a1_0 a1_1=some (r1,r2,r3)) :
  Calls Try.prog 46 #[.slice A0 l0.length c0,.agg #[.int .i64 a1_0,.string a1_1]] w fun e w'=>∃ v0_:Value,e = .returned (.tuple #[v0_,.int .i64 r2,.bool r3])∧Kd.S k108 108 w' w.heap.size (fun _=>True) v0_ r1∧Below w.heap.size w w':=by
 have HR0:=Aside0.mk hr0;have HC0:=Aside0.mk hc0;clear hr0 hc0;unfold impl_Win.f at h;obtain ⟨⟨v,t⟩,hd,h⟩:=Option.bind_eq_some_iff.1 h;have HD:=Aside0.mk hd;clear hd
 cases t with
 | false =>
  dsimp only at h
  rw [if_neg (by decide)] at h;simp only [Option.some.injEq,Prod.mk.injEq] at h;obtain ⟨rfl,rfl,rfl⟩:=h
  go_enter Try.func46,Try.ntmps46
  go_wp2_with (first|((with_reducible refine gate_dst (N:=3) rfl ?_);refine bx (N:=3) (cs:=#[.int .i64 a1_0,.string a1_1]) (t:=29) ?_;intro gt hg w1 hbox hb;have BTa:=Aside0.mk hbox;have HXa:=Aside0.mk hb;obtain ⟨hct0,hct1⟩:=c2_ BTa;clear hg hbox hb)|((with_reducible refine gate_callee (f:=19) rfl ?_);(try (refine gate_guard (by rfl) ?_;dsimp only));refine goesL_ (some 13) rfl rfl Try.func19 (by kernel_rfl) rfl #[.slice A0 l0.length c0,.agg #[.int .i64 a1_0,.string a1_1]] rfl ml ?_;(with_reducible refine (impl_Decide.calls k A0 c0 l0 a1_0 a1_1 v false _ (Kd.C_below HR0.out HXa.out) HC0.out HD.out).mono ?_);rintro e w2 ⟨rfl,hb⟩;refine ⟨_,rfl,?_⟩;have HXb:=Aside0.mk (below_step HXa.out hb);have BTb:=Aside0.mk (blk_below BTa.out hb);clear hct0 hct1;clear hb HXa BTa;obtain ⟨hct0,hct1⟩:=c2_ BTb));go_ret3;exact ⟨.slice none 0 0,rfl,Kd.S_nil _ _ _ _ _,HXb.out⟩
 | true =>
 dsimp only at h
 rw [if_pos rfl] at h;obtain ⟨owns,hw,h⟩:=Option.bind_eq_some_iff.1 h;obtain ⟨L,hl,h⟩:=Option.bind_eq_some_iff.1 h;simp only [Option.some.injEq,Prod.mk.injEq] at h;obtain ⟨rfl,rfl,rfl⟩:=h;have HW:=Aside0.mk hw;have HL:=Aside0.mk hl;clear hw hl
 go_enter Try.func46,Try.ntmps46
 go_wp2_with (first|((with_reducible refine gate_dst (N:=3) rfl ?_);refine bx (N:=3) (cs:=#[.int .i64 a1_0,.string a1_1]) (t:=29) ?_;intro gt hg w1 hbox hb;have BTa:=Aside0.mk hbox;have HXa:=Aside0.mk hb;obtain ⟨hct0,hct1⟩:=c2_ BTa;clear hg hbox hb)|((with_reducible refine gate_callee (f:=19) rfl ?_);(try (refine gate_guard (by rfl) ?_;dsimp only));refine goesL_ (some 13) rfl rfl Try.func19 (by kernel_rfl) rfl #[.slice A0 l0.length c0,.agg #[.int .i64 a1_0,.string a1_1]] rfl ml ?_;(with_reducible refine (impl_Decide.calls k A0 c0 l0 a1_0 a1_1 v true _ (Kd.C_below HR0.out HXa.out) HC0.out HD.out).mono ?_);rintro e w2 ⟨rfl,hb⟩;refine ⟨_,rfl,?_⟩;have HXb:=Aside0.mk (below_step HXa.out hb);have BTb:=Aside0.mk (blk_below BTa.out hb);clear hct0 hct1;clear hb HXa BTa;obtain ⟨hct0,hct1⟩:=c2_ BTb)|((with_reducible refine gate_callee (f:=90) rfl ?_);(try (refine gate_guard (by rfl) ?_;dsimp only));refine goesL_ (some 21) rfl rfl Try.func90 (by kernel_rfl) rfl #[.slice A0 l0.length c0,.int .i64 v] rfl ml ?_;(with_reducible refine (impl_Owner.calls k A0 c0 l0 v owns _ (Kd.C_below HR0.out HXb.out) HC0.out HW.out).mono ?_);rintro e w3 ⟨v_,rfl,ho,hb⟩;refine ⟨_,rfl,?_⟩;have HO:=Aside0.mk (Kd.R_lower ho HXb.out.size);clear ho;have HXc:=Aside0.mk (below_step HXb.out hb);have BTc:=Aside0.mk (blk_below BTb.out hb);clear hct0 hct1;clear hb HXb BTb;obtain ⟨hct0,hct1⟩:=c2_ BTc;obtain ⟨Ao,co,eo⟩:=Kd.R_slice HO.out;subst eo)|((with_reducible refine gate_dst (N:=22) rfl ?_);refine Kd.R_lit k108 _ 108 ?hg (N:=22) ?hd (xs:=([]:List S108)) (inner:=[]) (ok:=fun _=>True) (okp:=fun _=>True) ?hr ?hp (fun _ hk=>hk) trivial (Below.refl _ _) (Nat.le_refl _) (by simp) ?_;(case hd=>rfl);(case hg=>rfl);(case hr=>first|(go_simp;done)|(go_simp;rfl));(case hp=>exact (Reps.none _ _));intro v22 w4 ho hb hg_ hnew_;clear hg_ hnew_;have HO2:=Aside0.mk (Kd.R_below HO.out hb);have HS4:=Aside0.mk (Kd.R_lower ho HXc.out.size);clear ho HO;have HXd:=Aside0.mk (below_step HXc.out hb);have BTd:=Aside0.mk (blk_below BTc.out hb);clear hct0 hct1;clear hb HXc BTc;obtain ⟨hct0,hct1⟩:=c2_ BTd;obtain ⟨Al,cl,el⟩:=Kd.R_slice HS4.out;subst el)|((with_reducible refine gate_dst (N:=24) rfl ?_);refine bx (N:=24) (cs:=#[.slice A0 l0.length c0,.slice Ao owns.length co,.slice Al ([]:List S108).length cl]) (t:=104) ?_;intro g hg w5 hbox hb;have BG:=Aside0.mk hbox;have GW:=Aside0.mk (show w.heap.size≤g by rw [hg];exact HXd.out.size);have HO3:=Aside0.mk (Kd.R_below HO2.out hb);have HS5:=Aside0.mk (Kd.R_below HS4.out hb);clear hg hbox HO2 HS4;have HXe:=Aside0.mk (below_step HXd.out hb);have BTe:=Aside0.mk (blk_below BTd.out hb);clear hct0 hct1;clear hb HXd BTd;obtain ⟨hct0,hct1⟩:=c2_ BTe));refine (wk.calls k w l0 A0 c0 HR0.out HC0.out g owns a1_0 a1_1 [] none 0 0 [] L _ rfl ⟨Ao,co,Al,cl,⟨BG.out,HO3.out,nil_S HS5.out,GW.out⟩⟩ HXe.out (Kd.R_nil _ _ _ _ _) HL.out).mono ?_;rintro e w6 ⟨rfl,hI,hb,hF⟩;obtain ⟨Ao6,co6,Al6,cl6,hI⟩:=hI;have HI:=Aside0.mk hI;have HB9:=Aside0.mk hb;have HL9:=Aside0.mk hI.list;have hcg2:w6.cell? ⟨g,2,none⟩=some (.slice Al6 L.length cl6):=(blk_cell HI.out.blk 2).trans rfl;clear hI hb hF hct0 hct1 HXe BTe BG HO3 HS5;go_wp2;go_ret3;exact ⟨_,rfl,HL9.out,HB9.out⟩
def laws_eqBoolS.l0:Nat→List Bool→List Bool→Int→Option (Bool)
 | 0,_,_,_=>none
 | k + 1,x0,x1,x5=>if x5 < (x0.length:Int) then (if 0≤x5 then (if x5 < (x1.length:Int) then (if ((rdOf false x0 x5) != (rdOf false x1 x5))=true then (some false) else (laws_eqBoolS.l0 k x0 x1 (wrap64 (x5 + 1)))) else (none)) else (none)) else (some true)
def laws_eqBoolS.f (k:Nat) (l0:List Bool) (l1:List Bool):Option (Bool):=if (l0.length:Int)=(l1.length:Int) then (laws_eqBoolS.l0 k l0 l1 0) else (some false)
set_option maxHeartbeats 8000000 in
set_option maxRecDepth 100000 in
theorem laws_eqBoolS.calls (k:Nat) (A0:Option Addr) (c0:Nat) (l0:List Bool) (A1:Option Addr) (c1:Nat) (l1:List Bool) (r:Bool) (w:World) (hr0:Kd.C Kd.bool w A0 l0.length l0) (hc0:l0.length≤c0) (hr1:Kd.C Kd.bool w A1 l1.length l1) (hc1:l1.length≤c1) (h:laws_eqBoolS.f k l0 l1=some r) :
  Calls Try.prog 20 #[.slice A0 l0.length c0,.slice A1 l1.length c1] w fun e w'=>e = .returned (.bool r)∧Drawn0 w w':=by
 have HR0:=Aside0.mk hr0;have HC0:=Aside0.mk hc0;clear hr0 hc0;have HR1:=Aside0.mk hr1;have HC1:=Aside0.mk hc1;clear hr1 hc1;have H:(if (l0.length:Int)=(l1.length:Int) then (laws_eqBoolS.l0 k l0 l1 0) else (some false))=some r:=h;clear h
 by_cases c3:(l0.length:Int)=(l1.length:Int)
 ·rw [if_pos c3] at H;have c3b0:((l0.length:Int) == (l1.length:Int))=true:=beq_iff_eq.mpr c3;have c3b1:((l0.length:Int) != (l1.length:Int))=false:=bne_eq_false_iff_eq.mpr c3
  have c3b2:(l0.length == l1.length)=true:=by first|simpa using c3|(simp at c3 ⊢;omega)
  clear c3;have H':=Aside0.mk H;clear H
  go_enter Try.func20,Try.ntmps20
  go_wp2
  repeat (go_quiet (fail);try go_wp2)
  go_loopg [5] k (fun kq v5 w'=>∃ (A2:Int),v5 = .int .i64 A2∧Aside0 (laws_eqBoolS.l0 kq l0 l1 A2=some r)∧Aside0 (kq≤k)∧Drawn0 w w')
  case atStart=>exact ⟨(0),(by first|rfl|(simp;done)|(simp [*];done)),H',⟨Nat.le_refl _⟩,by repeat (first|exact Drawn0.refl _|apply Drawn0.step)⟩
  case round =>
   clear H';(try clear c1);(try clear c2);(try clear p2);(try clear c3);(try clear c3b0);(try clear c3b1);(try clear c3b2);obtain ⟨A2,rfl,HA,HK1,⟨m1,rfl⟩⟩:=hrel
   cases gk with
   | zero=>exact absurd HA.out (by simp [laws_eqBoolS.l0])
   | succ k1 =>
    have H:=HA.out;clear HA;simp only [laws_eqBoolS.l0] at H
    by_cases c4:A2 < (l0.length:Int)
    ·rw [if_pos c4] at H;have c4b0:decide (A2 < (l0.length:Int))=true:=decide_eq_true c4;clear c4
     by_cases c5:0≤A2
     ·rw [if_pos c5] at H;have c5b0:decide (0≤A2)=true:=decide_eq_true c5;clear c5
      by_cases c6:A2 < (l1.length:Int)
      ·rw [if_pos c6] at H;have c6b0:decide (A2 < (l1.length:Int))=true:=decide_eq_true c6;clear c6
       by_cases c7:((rdOf false l0 A2) != (rdOf false l1 A2))=true
       ·rw [if_pos c7] at H;have c7b0:((rdOf false l0 A2) != (rdOf false l1 A2))=true:=c7
        (try (have c7b1:decide ((rdOf false l0 A2)=(rdOf false l1 A2))=false:=by simpa using c7))
        (try (have c7b2:((rdOf false l0 A2) == (rdOf false l1 A2))=false:=by simpa using c7))
        (try (have c7b3:¬ ((rdOf false l0 A2)=(rdOf false l1 A2)):=by simpa using c7))
        clear c7;obtain rfl:=os H;have p101:0≤(A2:Int):=od;have q101:A2 < (l0.length:Int):=od;obtain ⟨ad101,e101,hx101_0⟩:=Kd.at_bool HR0.out A2 p101 q101;cases e101;replace p101:=eq_true p101;replace q101:=eq_true q101;have p102:0≤(A2:Int):=od;have q102:A2 < (l1.length:Int):=od;obtain ⟨ad102,e102,hx102_0⟩:=Kd.at_bool HR1.out A2 p102 q102;cases e102;replace p102:=eq_true p102;replace q102:=eq_true q102;go_wp2
        repeat (go_quiet (fail);try go_wp2)
        go_ret;exact ⟨e1,dn⟩
       ·rw [if_neg c7] at H
        have c7b0:((rdOf false l0 A2) != (rdOf false l1 A2))=false:=by simpa using c7
        (try (have c7b1:decide ((rdOf false l0 A2)=(rdOf false l1 A2))=true:=by simpa using c7))
        (try (have c7b2:((rdOf false l0 A2) == (rdOf false l1 A2))=true:=by simpa using c7))
        clear c7;have H':=Aside0.mk H;clear H;have p101:0≤(A2:Int):=od;have q101:A2 < (l0.length:Int):=od;obtain ⟨ad101,e101,hx101_0⟩:=Kd.at_bool HR0.out A2 p101 q101;cases e101;replace p101:=eq_true p101;replace q101:=eq_true q101;have p102:0≤(A2:Int):=od;have q102:A2 < (l1.length:Int):=od;obtain ⟨ad102,e102,hx102_0⟩:=Kd.at_bool HR1.out A2 p102 q102;cases e102;replace p102:=eq_true p102;replace q102:=eq_true q102;go_wp2
        repeat (go_quiet (fail);try go_wp2)
        go_roundg k1
        case measure=>have:=HK1.out;omega
        case rel=>exact ⟨(wrap64 (A2 + 1)),(by first|rfl|(simp;done)|(simp [*];done)),H',⟨by have:=HK1.out;omega⟩,by repeat (first|exact Drawn0.refl _|apply Drawn0.step)⟩
      ·rw [if_neg c6] at H;exact absurd H (by simp)
     ·rw [if_neg c5] at H;exact absurd H (by simp)
    ·rw [if_neg c4] at H;have c4b0:decide (A2 < (l0.length:Int))=false:=decide_eq_false c4;clear c4;obtain rfl:=os H;go_wp2
     repeat (go_quiet (fail);try go_wp2)
     go_ret;exact ⟨e1,dn⟩
 ·rw [if_neg c3] at H;have c3b0:((l0.length:Int) == (l1.length:Int))=false:=beq_eq_false_iff_ne.mpr c3;have c3b1:((l0.length:Int) != (l1.length:Int))=true:=bne_iff_ne.mpr c3
  have c3b2:(l0.length == l1.length)=false:=by first|simpa using c3|(simp at c3 ⊢;omega)
  obtain rfl:=os H
  go_enter Try.func20,Try.ntmps20
  go_wp2
  repeat (go_quiet (fail);try go_wp2)
  go_ret;exact ⟨e1,dn⟩
end Go.Proofs.Ytlpfmhikahlcoaa.G
