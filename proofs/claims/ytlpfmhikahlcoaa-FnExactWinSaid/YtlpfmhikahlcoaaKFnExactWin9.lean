-- texts of this session, merged by a program of it (wip/gen/pack.py)
import Derived.Test.YtlpfmhikahlcoaaKFnExactWin2
import Derived.Test.YtlpfmhikahlcoaaKFnExactWin3
import Derived.Test.YtlpfmhikahlcoaaKFnExactWin4
import Derived.Test.YtlpfmhikahlcoaaKFnExactWin8
import Derived.Laws.BitsLemmas
import Derived.Test.YtlpfmhikahlcoaaKFnExactWin5
import Derived.Maps.OwnOps
import Derived.Maps.OwnSet
import Derived.Maps.Views
import Derived.DeepKeys4
import Derived.StringKeys
import Derived.Deep.Draws
import Derived.Below
import Derived.RowKit
import Derived.Test.YtlpfmhikahlcoaaKFnExactWin1
namespace Go.Proofs.Ytlpfmhikahlcoaa.G
open Go.Proofs.Ytlpfmhikahlcoaa.Sh Go.RowKit Go.Proofs.YtlpfmhikahlcoaaW.PrintWords Go.Proofs.YtlpfmhikahlcoaaW.PrintLast Go.Proofs.YtlpfmhikahlcoaaW.PrintMore
attribute [local go_sem] max2_int min2_int max_two min_two max_three min_three max_four min_four
set_option linter.unusedVariables false
set_option linter.unusedSimpArgs false
mutual
def laws_FnExactWin.j0:Nat→List Bool→List (S108)→Int→Bool→List Bool→List (S108)→Int→Bool→Bool→Int→ByteArray→Option (Bool)
 | 0,_,_,_,_,_,_,_,_,_,_,_=>none
 | k + 1,x0,x6,x7,x8,x9,x10,x11,x12,x59,x102000,x102001=>if x59=true then (some false) else ((laws_toBoolS.f k x0).bind fun Ay=>((laws_eqBoolS.f k x9 Ay).bind fun B5=>(if B5=true then ((laws_markBoolS.f k x9 1).bind fun bt128=>(if bt128.1 < 0 then (laws_FnExactWin.j1 k x0 x6 x7 x8 x10 true x102000 x102001) else ((laws_eqPickS.f k x10 x6).bind fun Au=>(if Au=true then (if x11=x7 then (laws_FnExactWin.j1 k x0 x6 x7 x8 x10 (x12 != x8) x102000 x102001) else (laws_FnExactWin.j1 k x0 x6 x7 x8 x10 true x102000 x102001)) else (laws_FnExactWin.j1 k x0 x6 x7 x8 x10 true x102000 x102001))))) else (some false))))
def laws_FnExactWin.j1:Nat→List Bool→List (S108)→Int→Bool→List (S108)→Bool→Int→ByteArray→Option (Bool)
 | 0,_,_,_,_,_,_,_,_=>none
 | k + 1,x0,x6,x7,x8,x10,x85,x102000,x102001=>if x85=true then (some false) else ((laws_markPickS.f k x10 1).bind fun bt131=>((laws_heldPickS.f k bt131.2 1).bind fun An=>(if An < 0 then (some false) else (if An=bt131.1 then ((laws_toBoolS.f k x0).bind fun Av=>((laws_toTable.f x102000 x102001).bind fun bt137=>((impl_Win.f k Av bt137.1 bt137.2).bind fun bt139=>((laws_eqPickS.f k bt139.1 x6).bind fun Ar=>(if Ar=true then (if bt139.2.1=x7 then (laws_FnExactWin.j2 k bt131.2 bt131.1 (bt139.2.2 != x8)) else (laws_FnExactWin.j2 k bt131.2 bt131.1 true)) else (laws_FnExactWin.j2 k bt131.2 bt131.1 true)))))) else (some false)))))
def laws_FnExactWin.j2:Nat→List (S108)→Int→Bool→Option (Bool)
 | 0,_,_,_=>none
 | k + 1,x10,x14,x119=>if x119=true then (some false) else ((laws_heldPickS.f k x10 1).bind fun Aq=>(if Aq < 0 then (some false) else (if Aq=x14 then (some true) else (some false))))
end
def laws_FnExactWin.f (k:Nat) (l0:List Bool) (a1_0:Int) (a1_1:ByteArray):Option (Bool):=if (l0.length:Int) > 1048576 then (some true) else ((laws_szTable.f a1_0 a1_1 1048576).bind fun Az=>(if Az < 0 then (some true) else ((laws_toBoolS.f k l0).bind fun Aw=>((laws_toTable.f a1_0 a1_1).bind fun bt106=>((spec_Win.f k Aw bt106.1 bt106.2).bind fun bt108=>((laws_toBoolS.f k l0).bind fun A6=>((laws_toTable.f a1_0 a1_1).bind fun bt116=>((impl_Win.f k A6 bt116.1 bt116.2).bind fun bt118=>((laws_eqPickS.f k bt118.1 bt108.1).bind fun Ao=>(if Ao=true then (if bt118.2.1=bt108.2.1 then (laws_FnExactWin.j0 k l0 bt108.1 bt108.2.1 bt108.2.2 A6 bt118.1 bt118.2.1 bt118.2.2 (bt118.2.2 != bt108.2.2) a1_0 a1_1) else (laws_FnExactWin.j0 k l0 bt108.1 bt108.2.1 bt108.2.2 A6 bt118.1 bt118.2.1 bt118.2.2 true a1_0 a1_1)) else (laws_FnExactWin.j0 k l0 bt108.1 bt108.2.1 bt108.2.2 A6 bt118.1 bt118.2.1 bt118.2.2 true a1_0 a1_1)))))))))))
def laws_FnExactWin.T7:Bool × List (List Nat × List Nat):=(true,[([],[]),([0],[0]),([],[]),([2,1],[2]),([1,3,3],[1,3]),([4],[4]),([5],[5]),([5],[5]),([5],[5]),([6,4,0,1,2,3,4,5,6],[6]),([7,9,0,1,2,3,4,5,6,7,9],[7]),([8,10,0,1,2,3,4,5,6,7,8,9,10],[8])])
def laws_FnExactWin.B7:List Nat:=[0,1,0,7,15,31,63,63,63,127,767,2047]
theorem laws_FnExactWin.tab7:rtab .any (opsOf Try.f12 7)=laws_FnExactWin.T7:=by kernel_rfl
theorem laws_FnExactWin.bits7:waitsOk laws_FnExactWin.T7.2 laws_FnExactWin.B7=true:=by kernel_rfl
def laws_FnExactWin.T26:Bool × List (List Nat × List Nat):=(true,[([],[]),([0],[0]),([],[]),([2,1],[2]),([1,3,3],[1,3]),([4],[4]),([5],[5]),([5],[5]),([5],[5]),([6,4,0,1,2,3,4,5,6],[6]),([7,9,0,1,2,3,4,5,6,7,9],[7]),([8,10,0,1,2,3,4,5,6,7,8,9,10],[8])])
def laws_FnExactWin.B26:List Nat:=[0,1,0,7,15,31,63,63,63,127,767,2047]
theorem laws_FnExactWin.tab26:rtab .any (opsOf Try.f12 26)=laws_FnExactWin.T26:=by kernel_rfl
theorem laws_FnExactWin.bits26:waitsOk laws_FnExactWin.T26.2 laws_FnExactWin.B26=true:=by kernel_rfl
set_option maxHeartbeats 80000000 in
set_option maxRecDepth 100000 in
theorem laws_FnExactWin.calls (k:Nat) (A0:Option Addr) (c0:Nat) (l0:List Bool) (a1_0:Int) (a1_1:ByteArray) (r:Bool) (w:World) (hr0:Kd.C Kd.bool w A0 l0.length l0) (hc0:l0.length≤c0) (ht_:r=true) (h:laws_FnExactWin.f k l0 a1_0 a1_1=some r) :
  Calls Try.prog 12 #[.slice A0 l0.length c0,.agg #[.int .i64 a1_0,.string a1_1]] w fun e w'=>e = .returned (.bool r)∧Below w.heap.size w w':=by
 have hu24:=Try.underlying24;have HT:=Aside0.mk ht_;clear ht_;have HR0:=Aside0.mk hr0;have HC0:=Aside0.mk hc0;clear hr0 hc0;have HB:=Aside0.mk (Below.refl w.heap.size w);have H:(if (l0.length:Int) > 1048576 then (some true) else ((laws_szTable.f a1_0 a1_1 1048576).bind fun Az=>(if Az < 0 then (some true) else ((laws_toBoolS.f k l0).bind fun Aw=>((laws_toTable.f a1_0 a1_1).bind fun bt106=>((spec_Win.f k Aw bt106.1 bt106.2).bind fun bt108=>((laws_toBoolS.f k l0).bind fun A6=>((laws_toTable.f a1_0 a1_1).bind fun bt116=>((impl_Win.f k A6 bt116.1 bt116.2).bind fun bt118=>((laws_eqPickS.f k bt118.1 bt108.1).bind fun Ao=>(if Ao=true then (if bt118.2.1=bt108.2.1 then (laws_FnExactWin.j0 k l0 bt108.1 bt108.2.1 bt108.2.2 A6 bt118.1 bt118.2.1 bt118.2.2 (bt118.2.2 != bt108.2.2) a1_0 a1_1) else (laws_FnExactWin.j0 k l0 bt108.1 bt108.2.1 bt108.2.2 A6 bt118.1 bt118.2.1 bt118.2.2 true a1_0 a1_1)) else (laws_FnExactWin.j0 k l0 bt108.1 bt108.2.1 bt108.2.2 A6 bt118.1 bt118.2.1 bt118.2.2 true a1_0 a1_1))))))))))))=some r:=h;clear h
 by_cases c3:(l0.length:Int) > 1048576
 ·rw [if_pos c3] at H;have c3b0:decide (1048576 < (l0.length:Int))=true:=decide_eq_true c3;have c3b1:decide (1048576 < l0.length)=true:=decide_eq_true (by omega);clear c3;obtain rfl:=os H
  go_enter Try.func12,Try.ntmps12
  go_wp2_with (first|((with_reducible refine gate_dst (N:=3) rfl ?_);refine bx (N:=3) (cs:=#[.int .i64 a1_0,.string a1_1]) (t:=24) ?_;intro Aa hg w4 hbox hb;have A1:=Aside0.mk (hbox);have Bg:=bz0 hg HB;have Ae:=bz0 hg HB;replace HB:=bs0 HB hb;clear hb hbox hg));go_ret;exact ⟨er,tb HB⟩
 ·rw [if_neg c3] at H;have c3b0:decide (1048576 < (l0.length:Int))=false:=decide_eq_false c3;have c3b1:decide (1048576 < l0.length)=false:=decide_eq_false (by omega);clear c3;replace H:=ob H;obtain ⟨Az,A50,H⟩:=H;replace H:(if Az < 0 then (some true) else ((laws_toBoolS.f k l0).bind fun Aw=>((laws_toTable.f a1_0 a1_1).bind fun bt106=>((spec_Win.f k Aw bt106.1 bt106.2).bind fun bt108=>((laws_toBoolS.f k l0).bind fun A6=>((laws_toTable.f a1_0 a1_1).bind fun bt116=>((impl_Win.f k A6 bt116.1 bt116.2).bind fun bt118=>((laws_eqPickS.f k bt118.1 bt108.1).bind fun Ao=>(if Ao=true then (if bt118.2.1=bt108.2.1 then (laws_FnExactWin.j0 k l0 bt108.1 bt108.2.1 bt108.2.2 A6 bt118.1 bt118.2.1 bt118.2.2 (bt118.2.2 != bt108.2.2) a1_0 a1_1) else (laws_FnExactWin.j0 k l0 bt108.1 bt108.2.1 bt108.2.2 A6 bt118.1 bt118.2.1 bt118.2.2 true a1_0 a1_1)) else (laws_FnExactWin.j0 k l0 bt108.1 bt108.2.1 bt108.2.2 A6 bt118.1 bt118.2.1 bt118.2.2 true a1_0 a1_1))))))))))=some r:=H;have A5:=Aside0.mk A50;clear A50
  by_cases c6:Az < 0
  ·rw [if_pos c6] at H;have c6b0:decide (Az < 0)=true:=decide_eq_true c6;clear c6;obtain rfl:=os H
   go_enter Try.func12,Try.ntmps12
   go_wp2_with (first|((with_reducible refine gate_dst (N:=3) rfl ?_);refine bx (N:=3) (cs:=#[.int .i64 a1_0,.string a1_1]) (t:=24) ?_;intro Aa hg w7 hbox hb;have A1:=Aside0.mk (hbox);have Bg:=bz0 hg HB;have Ae:=bz0 hg HB;replace HB:=bs0 HB hb;clear hb hbox hg;have hcz8__:=c2_ A1;have hfz8__:=f_ A1)|((with_reducible refine gate_callee (f:=15) rfl ?_);refine goesL_ (some 24) rfl rfl Try.func15 (by kernel_rfl) rfl #[.agg #[.int .i64 a1_0,.string a1_1],.int .i64 1048576] rfl ml ?_;(with_reducible refine (laws_szTable.calls a1_0 a1_1 1048576 Az _ A5.out).mono ?_);rintro e w9 ⟨rfl,hb⟩;refine ⟨_,rfl,?_⟩;replace A1:=bb A1 hb;replace HB:=bs1 HB hb Ae;(try clear hb);(try clear hb2);(try clear hk);(try clear hi)));go_ret;exact ⟨er,tb HB⟩
  ·rw [if_neg c6] at H;have c6b0:decide (Az < 0)=false:=decide_eq_false c6;clear c6;replace H:=ob H;obtain ⟨Aw,A100,H⟩:=H;replace H:((laws_toTable.f a1_0 a1_1).bind fun bt106=>((spec_Win.f k Aw bt106.1 bt106.2).bind fun bt108=>((laws_toBoolS.f k l0).bind fun A6=>((laws_toTable.f a1_0 a1_1).bind fun bt116=>((impl_Win.f k A6 bt116.1 bt116.2).bind fun bt118=>((laws_eqPickS.f k bt118.1 bt108.1).bind fun Ao=>(if Ao=true then (if bt118.2.1=bt108.2.1 then (laws_FnExactWin.j0 k l0 bt108.1 bt108.2.1 bt108.2.2 A6 bt118.1 bt118.2.1 bt118.2.2 (bt118.2.2 != bt108.2.2) a1_0 a1_1) else (laws_FnExactWin.j0 k l0 bt108.1 bt108.2.1 bt108.2.2 A6 bt118.1 bt118.2.1 bt118.2.2 true a1_0 a1_1)) else (laws_FnExactWin.j0 k l0 bt108.1 bt108.2.1 bt108.2.2 A6 bt118.1 bt118.2.1 bt118.2.2 true a1_0 a1_1))))))))=some r:=H;have A10:=Aside0.mk A100;clear A100;replace H:=ob H;obtain ⟨⟨Ba,Bb⟩,A110,H⟩:=H;replace H:((spec_Win.f k Aw Ba Bb).bind fun bt108=>((laws_toBoolS.f k l0).bind fun A6=>((laws_toTable.f a1_0 a1_1).bind fun bt116=>((impl_Win.f k A6 bt116.1 bt116.2).bind fun bt118=>((laws_eqPickS.f k bt118.1 bt108.1).bind fun Ao=>(if Ao=true then (if bt118.2.1=bt108.2.1 then (laws_FnExactWin.j0 k l0 bt108.1 bt108.2.1 bt108.2.2 A6 bt118.1 bt118.2.1 bt118.2.2 (bt118.2.2 != bt108.2.2) a1_0 a1_1) else (laws_FnExactWin.j0 k l0 bt108.1 bt108.2.1 bt108.2.2 A6 bt118.1 bt118.2.1 bt118.2.2 true a1_0 a1_1)) else (laws_FnExactWin.j0 k l0 bt108.1 bt108.2.1 bt108.2.2 A6 bt118.1 bt118.2.1 bt118.2.2 true a1_0 a1_1)))))))=some r:=H;have A11:=Aside0.mk A110;clear A110;replace H:=ob H;obtain ⟨⟨A4,A3,A7⟩,A120,H⟩:=H;replace H:((laws_toBoolS.f k l0).bind fun A6=>((laws_toTable.f a1_0 a1_1).bind fun bt116=>((impl_Win.f k A6 bt116.1 bt116.2).bind fun bt118=>((laws_eqPickS.f k bt118.1 A4).bind fun Ao=>(if Ao=true then (if bt118.2.1=A3 then (laws_FnExactWin.j0 k l0 A4 A3 A7 A6 bt118.1 bt118.2.1 bt118.2.2 (bt118.2.2 != A7) a1_0 a1_1) else (laws_FnExactWin.j0 k l0 A4 A3 A7 A6 bt118.1 bt118.2.1 bt118.2.2 true a1_0 a1_1)) else (laws_FnExactWin.j0 k l0 A4 A3 A7 A6 bt118.1 bt118.2.1 bt118.2.2 true a1_0 a1_1))))))=some r:=H;have A12:=Aside0.mk A120;clear A120;replace H:=ob H;obtain ⟨A6,A130,H⟩:=H;replace H:((laws_toTable.f a1_0 a1_1).bind fun bt116=>((impl_Win.f k A6 bt116.1 bt116.2).bind fun bt118=>((laws_eqPickS.f k bt118.1 A4).bind fun Ao=>(if Ao=true then (if bt118.2.1=A3 then (laws_FnExactWin.j0 k l0 A4 A3 A7 A6 bt118.1 bt118.2.1 bt118.2.2 (bt118.2.2 != A7) a1_0 a1_1) else (laws_FnExactWin.j0 k l0 A4 A3 A7 A6 bt118.1 bt118.2.1 bt118.2.2 true a1_0 a1_1)) else (laws_FnExactWin.j0 k l0 A4 A3 A7 A6 bt118.1 bt118.2.1 bt118.2.2 true a1_0 a1_1)))))=some r:=H;have A13:=Aside0.mk A130;clear A130;replace H:=ob H;obtain ⟨⟨Bc,Bd⟩,A140,H⟩:=H;replace H:((impl_Win.f k A6 Bc Bd).bind fun bt118=>((laws_eqPickS.f k bt118.1 A4).bind fun Ao=>(if Ao=true then (if bt118.2.1=A3 then (laws_FnExactWin.j0 k l0 A4 A3 A7 A6 bt118.1 bt118.2.1 bt118.2.2 (bt118.2.2 != A7) a1_0 a1_1) else (laws_FnExactWin.j0 k l0 A4 A3 A7 A6 bt118.1 bt118.2.1 bt118.2.2 true a1_0 a1_1)) else (laws_FnExactWin.j0 k l0 A4 A3 A7 A6 bt118.1 bt118.2.1 bt118.2.2 true a1_0 a1_1))))=some r:=H;have A14:=Aside0.mk A140;clear A140;replace H:=ob H;obtain ⟨⟨A8,Ai,Ak⟩,A150,H⟩:=H;replace H:((laws_eqPickS.f k A8 A4).bind fun Ao=>(if Ao=true then (if Ai=A3 then (laws_FnExactWin.j0 k l0 A4 A3 A7 A6 A8 Ai Ak (Ak != A7) a1_0 a1_1) else (laws_FnExactWin.j0 k l0 A4 A3 A7 A6 A8 Ai Ak true a1_0 a1_1)) else (laws_FnExactWin.j0 k l0 A4 A3 A7 A6 A8 Ai Ak true a1_0 a1_1)))=some r:=H;have A15:=Aside0.mk A150;clear A150;have HC16:=Aside0.mk H;clear H
   go_enter Try.func12,Try.ntmps12
   try go_wp2_with (first|((with_reducible refine gate_dst (N:=3) rfl ?_);refine bx (N:=3) (cs:=#[.int .i64 a1_0,.string a1_1]) (t:=24) ?_;intro Aa hg w17 hbox hb;have A1:=Aside0.mk (hbox);have Bg:=bz0 hg HB;have Ae:=bz0 hg HB;replace HB:=bs0 HB hb;clear hb hbox hg;have hcz18__:=c2_ A1;have hfz18__:=f_ A1)|((with_reducible refine gate_callee (f:=15) rfl ?_);refine goesL_ (some 24) rfl rfl Try.func15 (by kernel_rfl) rfl #[.agg #[.int .i64 a1_0,.string a1_1],.int .i64 1048576] rfl ml ?_;(with_reducible refine (laws_szTable.calls a1_0 a1_1 1048576 Az _ A5.out).mono ?_);rintro e w19 ⟨rfl,hb⟩;refine ⟨_,rfl,?_⟩;replace A1:=bb A1 hb;replace HB:=bs1 HB hb Ae;(try clear hb);(try clear hb2);(try clear hk);(try clear hi)))
   replace A1:=Aside0.mk (blk_drew A1.out);replace HB:=Aside0.mk (below_drew1 HB.out);refine start_ (n:=12) (S:=fun w'=>w'.cell? ⟨Aa,0,none⟩=some (.int .i64 a1_0)∧w'.cell? ⟨Aa,1,none⟩=some (.string a1_1)) (ds:=[]) (tf 0 12) (by kernel_rfl) rfl rfl ⟨(blk_cell A1.out 0).trans rfl,(blk_cell A1.out 1).trans rfl⟩ (fun hHeld=>?_);refine with_tabW laws_FnExactWin.tab7 laws_FnExactWin.bits7 (fun HT_ HW_=>?_);generalize w19.drew=w20 at A1 HB hHeld ⊢;refine pure_ (i:=0) (N:=some 28) (v:=?_) (a':=?_) (tf 1 11) rfl rfl (any_of HT_.out (by kernel_rfl)) (fun _ _ _ h=>h) (Or.inl ⟨by rfl,?_⟩) ?_ ?_;rotate_left
   ·intro w';go_simp;with_reducible rfl
   rotate_left
   ·simp only [Act.put,s1,s2,s3,i64_w,i32_w];rfl
   refine take_ (i:=2) (N:=some 30) (v:=?_) (a':=?_) #[true,false,true,false,false,false,false,false,false,false,false,false] rfl rfl (take_ofW HT_.out HW_.out (by kernel_rfl)) (fun _ _ _ h=>h) (Or.inl ⟨by rfl,?_⟩) hHeld ?_ ?_;rotate_left
   ·rintro w' ⟨s0,s1⟩;go_simp;with_reducible rfl
   rotate_left
   ·simp only [Act.put,s1,s2,s3,i64_w,i32_w];rfl
   refine one_ (i:=1) (N:=some 29) (tf 3 9) rfl rfl (one_of HT_.out (by kernel_rfl)) (by decide) (fun K hK=>?_);refine goes_ Try.func17 (by kernel_rfl) rfl #[.slice A0 l0.length c0] (by rfl) rfl rfl ml ?_
   with_reducible refine (laws_toBoolS.calls k _ _ l0 Aw _ ?side1 ?side2 A10.out).mono ?_
   (case side1=>exact cw (Kd.C_below HR0.out HB.out))
   (case side2=>exact HC0.out)
   rintro e w21 ⟨v104,rfl,ho0,hb⟩;refine ⟨_,rfl,?_⟩;have n0_:=Aside0.mk (Kd.R_lower ho0 (below_size (tb HB)));have n1_:=bb A1 hb;have n2_:=bs1 HB hb Ae;clear A1;clear HB;have Ac:=n0_;have A1:=n1_;have HB:=n2_;clear n0_ n1_ n2_;(try clear hb);(try clear hb2);(try clear hk);(try clear hi);(try clear ho0);refine hK.out _ _ ⟨(blk_cell A1.out 0).trans rfl,(blk_cell A1.out 1).trans rfl⟩ (fun hHeld=>?_);clear hK K;refine norm_ (a':=?_) ?_ ?_;rotate_left
   ·show Act.put _ (some 29) _=_
    simp only [Act.put,s1,s2,s3,i64_w,i32_w];rfl
   refine one_ (i:=3) (N:=some 31) (tf 4 8) rfl rfl (one_of HT_.out (by kernel_rfl)) (by decide) (fun K hK=>?_);refine goes_ Try.func18 (by kernel_rfl) rfl #[.agg #[.int .i64 a1_0,.string a1_1]] (by rfl) rfl rfl ml ?_
   with_reducible refine (laws_toTable.calls a1_0 a1_1 Ba Bb _ A11.out).mono ?_
   rintro e w22 ⟨rfl,hb⟩;refine ⟨_,rfl,?_⟩;replace Ac:=rb Ac hb;replace A1:=bb A1 hb;replace HB:=bs1 HB hb Ae;(try clear hb);(try clear hb2);(try clear hk);(try clear hi);obtain ⟨Bh,Bi,eo23⟩:=Kd.R_slice Ac.out;(first|subst eo23|(injection eo23 with f1_ f2_ f3_;have f4_:=f1_.symm;have f5_:=f3_.symm;clear f1_ f2_ f3_;subst f4_;subst f5_));refine hK.out _ _ ⟨(blk_cell A1.out 0).trans rfl,(blk_cell A1.out 1).trans rfl⟩ (fun hHeld=>?_);clear hK K;refine norm_ (a':=?_) ?_ ?_;rotate_left
   ·show Act.put _ (some 31) _=_
    simp only [Act.put,s1,s2,s3,i64_w,i32_w];rfl
   refine one_ (i:=4) (N:=some 32) (tf 5 7) rfl rfl (one_of HT_.out (by kernel_rfl)) (by decide) (fun K hK=>?_);refine goes_ Try.func45 (by kernel_rfl) rfl #[.slice Bh Aw.length Bi,.agg #[.int .i64 Ba,.string Bb]] (by rfl) rfl rfl ml ?_
   with_reducible refine (spec_Win.calls k _ _ Aw Ba Bb A4 A3 A7 _ ?side1 ?side2 A12.out).mono ?_
   (case side1=>exact cw (Kd.R_reads' Ac.out).2.2)
   (case side2=>exact (Kd.R_reads' Ac.out).2.1)
   rintro e w24 ⟨v109,rfl,ho0,hb⟩;refine ⟨_,rfl,?_⟩;have n0_:=rb Ac hb;have n1_:=Aside0.mk (Kd.N_lower (Kd.N_mono (ok':=fun k_=>some k_≠(.slice Bh Aw.length Bi:Value).ownBlock∧k_≠Aa) ho0 (fun k_ hk_=>⟨(Kd.fresh' (Kd.R_lt (ra Ac)) k_ hk_),(Kd.freshB (g:=Aa) (o := .cells #[.int .i64 a1_0,.string a1_1] 24 (0,0)) (dr A1) k_ hk_)⟩)) (below_size (tb HB)));have n2_:=bb A1 hb;have n3_:=bs1 HB hb Ae;clear Ac;clear A1;clear HB;have Ac:=n0_;have Ab:=n1_;have A1:=n2_;have HB:=n3_;clear n0_ n1_ n2_ n3_;(try clear hb);(try clear hb2);(try clear hk);(try clear hi);(try clear ho0);refine hK.out _ _ ⟨(blk_cell A1.out 0).trans rfl,(blk_cell A1.out 1).trans rfl⟩ (fun hHeld=>?_);clear hK K;refine norm_ (a':=?_) ?_ ?_;rotate_left
   ·show Act.put _ (some 32) _=_
    simp only [Act.put,s1,s2,s3,i64_w,i32_w];rfl
   refine pure_ (i:=5) (N:=some 27) (v:=?_) (a':=?_) (tf 6 6) rfl rfl (any_of HT_.out (by kernel_rfl)) (fun _ _ _ h=>h) (Or.inl ⟨by rfl,?_⟩) ?_ ?_;rotate_left
   ·intro w';go_simp;with_reducible rfl
   rotate_left
   ·simp only [Act.put,s1,s2,s3,i64_w,i32_w];rfl
   refine pure_ (i:=6) (N:=some 33) (v:=?_) (a':=?_) (tf 7 5) rfl rfl (any_of HT_.out (by kernel_rfl)) (fun _ _ _ h=>h) (Or.inl ⟨by rfl,?_⟩) ?_ ?_;rotate_left
   ·intro w';go_simp;with_reducible rfl
   rotate_left
   ·simp only [Act.put,s1,s2,s3,i64_w,i32_w];rfl
   refine pure_ (i:=7) (N:=some 34) (v:=?_) (a':=?_) (tf 8 4) rfl rfl (any_of HT_.out (by kernel_rfl)) (fun _ _ _ h=>h) (Or.inl ⟨by rfl,?_⟩) ?_ ?_;rotate_left
   ·intro w';go_simp;with_reducible rfl
   rotate_left
   ·simp only [Act.put,s1,s2,s3,i64_w,i32_w];rfl
   refine pure_ (i:=8) (N:=some 35) (v:=?_) (a':=?_) (tf 9 3) rfl rfl (any_of HT_.out (by kernel_rfl)) (fun _ _ _ h=>h) (Or.inl ⟨by rfl,?_⟩) ?_ ?_;rotate_left
   ·intro w';go_simp;with_reducible rfl
   rotate_left
   ·simp only [Act.put,s1,s2,s3,i64_w,i32_w];rfl
   refine pure_ (i:=9) (N:=some 6) (v:=?_) (a':=?_) (tf 10 2) rfl rfl (any_of HT_.out (by kernel_rfl)) (fun _ _ _ h=>h) (Or.inl ⟨by rfl,?_⟩) ?_ ?_;rotate_left
   ·intro w';go_simp;with_reducible rfl
   rotate_left
   ·simp only [Act.put,s1,s2,s3,i64_w,i32_w];rfl
   refine pure_ (i:=10) (N:=some 7) (v:=?_) (a':=?_) (tf 11 1) rfl rfl (any_of HT_.out (by kernel_rfl)) (fun _ _ _ h=>h) (Or.inl ⟨by rfl,?_⟩) ?_ ?_;rotate_left
   ·intro w';go_simp;with_reducible rfl
   rotate_left
   ·simp only [Act.put,s1,s2,s3,i64_w,i32_w];rfl
   refine pure_ (i:=11) (N:=some 8) (v:=?_) (a':=?_) (tf 12 0) rfl rfl (any_of HT_.out (by kernel_rfl)) (fun _ _ _ h=>h) (Or.inl ⟨by rfl,?_⟩) ?_ ?_;rotate_left
   ·intro w';go_simp;with_reducible rfl
   rotate_left
   ·simp only [Act.put,s1,s2,s3,i64_w,i32_w];rfl
   refine done_ (done_of HT_.out (by kernel_rfl)) ?_
   go_upto_region 10 with (first|((with_reducible refine gate_callee (f:=17) rfl ?_);refine goesL_ (some 37) rfl rfl Try.func17 (by kernel_rfl) rfl #[.slice A0 l0.length c0] rfl ml ?_;(with_reducible refine (laws_toBoolS.calls k _ _ l0 A6 _ ?side1 ?side2 A13.out).mono ?_);(case side1=>exact cw (Kd.C_below HR0.out HB.out));(case side2=>exact HC0.out);rintro e w25 ⟨v114,rfl,ho0,hb⟩;refine ⟨_,rfl,?_⟩;replace Ab:=Aside0.mk (Kd.N_elder' (by (with_reducible repeat (first|apply Kd.N_alloc|apply Kd.N_drewN|apply Kd.N_drew));exact Ab.out) (Kd.R_base ho0) hb);have Ag:=Aside0.mk (Kd.R_lower (Kd.R_new' ho0 (Kd.R_lt (ra Ac))) (below_size (tb HB)));replace Ac:=re Ac (Kd.R_base ho0) hb;replace A1:=bb A1 hb;replace HB:=bs1 HB hb Ae;(try clear hb);(try clear hb2);(try clear hk);(try clear hi);(try clear ho0);have hcz26__:=c2_ A1;have hfz26__:=f_ A1)|((with_reducible refine gate_callee (f:=18) rfl ?_);refine goesL_ (some 41) rfl rfl Try.func18 (by kernel_rfl) rfl #[.agg #[.int .i64 a1_0,.string a1_1]] rfl ml ?_;(with_reducible refine (laws_toTable.calls a1_0 a1_1 Bc Bd _ A14.out).mono ?_);rintro e w27 ⟨rfl,hb⟩;refine ⟨_,rfl,?_⟩;replace Ac:=rb Ac hb;replace Ab:=Aside0.mk (Kd.N_below (by (with_reducible repeat (first|apply Kd.N_alloc|apply Kd.N_drewN|apply Kd.N_drew));exact Ab.out) hb);replace Ag:=rb Ag hb;replace A1:=bb A1 hb;replace HB:=bs1 HB hb Ae;(try clear hb);(try clear hb2);(try clear hk);(try clear hi);obtain ⟨As,At,eo28⟩:=Kd.R_slice Ag.out;subst eo28)|((with_reducible refine gate_callee (f:=46) rfl ?_);refine goesL_ (some 42) rfl rfl Try.func46 (by kernel_rfl) rfl #[.slice As A6.length At,.agg #[.int .i64 Bc,.string Bd]] rfl ml ?_;(with_reducible refine (impl_Win.calls k _ _ A6 Bc Bd A8 Ai Ak _ ?side1 ?side2 A15.out).mono ?_);(case side1=>exact cw (Kd.R_reads' Ag.out).2.2);(case side2=>exact (Kd.R_reads' Ag.out).2.1);rintro e w29 ⟨v119,rfl,ho0,hb⟩;refine ⟨_,rfl,?_⟩;obtain ⟨b_,HSX,HNX,HGX⟩:=win_new (vx:=(.slice As A6.length At:Value)) (g:=Aa) (o := .cells #[.int .i64 a1_0,.string a1_1] 24 (0,0)) ho0 (by (with_reducible repeat (first|apply Kd.N_alloc|apply Kd.N_drewN|apply Kd.N_drew));exact Ab.out) hb (dr A1) (below_size (tb HB)) (Kd.R_lt (ra Ag));have Ah:=Aside0.mk (Kd.N_lower (Kd.N_mono (ok':=fun k_=>some k_≠(.slice Bh Aw.length Bi:Value).ownBlock∧some k_≠(v109:Value).ownBlock∧some k_≠(.slice As A6.length At:Value).ownBlock∧k_≠Aa) (Kd.S_N (Kd.S_bound ho0)) (fun k_ hk_=>⟨(Kd.fresh' (Kd.R_lt (ra Ac)) k_ hk_.2.1),(Kd.fresh' (Kd.N_lt (by (with_reducible repeat (first|apply Kd.N_alloc|apply Kd.N_drewN|apply Kd.N_drew));exact Ab.out)) k_ hk_.2.1),(Kd.fresh' (Kd.R_lt (ra Ag)) k_ hk_.2.1),(Kd.freshB (g:=Aa) (o := .cells #[.int .i64 a1_0,.string a1_1] 24 (0,0)) (dr A1) k_ hk_.2.1)⟩)) (below_size (tb HB)));replace Ac:=rb Ac hb;replace Ab:=Aside0.mk (Kd.N_elder' (by (with_reducible repeat (first|apply Kd.N_alloc|apply Kd.N_drewN|apply Kd.N_drew));exact Ab.out) (Kd.N_base (Kd.S_N ho0)) hb);replace Ag:=rb Ag hb;replace A1:=bb A1 hb;replace HB:=bs1 HB hb Ae;(try clear hb);(try clear hb2);(try clear hk);(try clear hi);(try clear ho0)))
   (try simp only [Act.put,List.setIfInBounds_toArray,List.set_cons_zero,List.set_cons_succ])
   go_cut [59] (fun v59 wc=>∃ (kq:Nat) (B0:Bool),v59 = .bool B0∧Aside0 (laws_FnExactWin.j0 kq l0 A4 A3 A7 A6 A8 Ai Ak B0 a1_0 a1_1=some r)∧Aside0 (kq≤k)∧Aside0 (Kd.N k108 108 wc w.heap.size (fun k_=>some k_≠((.slice As A6.length At):Value).ownBlock∧some k_≠(v119:Value).ownBlock∧k_≠Aa) v109 A4)∧Aside0 (Kd.R Kd.bool 4 wc w.heap.size (fun _=>True) (.slice As A6.length At) A6)∧Aside0 (Kd.N k108 108 wc w.heap.size (fun k_=>some k_≠(v109:Value).ownBlock∧some k_≠((.slice As A6.length At):Value).ownBlock∧k_≠Aa) v119 A8)∧Aside0 (wc.heap[Aa]? = some (.cells #[.int .i64 a1_0,.string a1_1] 24 (0,0)))∧Aside0 (Below w.heap.size w wc)∧Aside0 (Kd.S k108 108 wc w.heap.size (fun k_=>b_≤k_) v119 A8)∧Aside0 (Kd.N k108 108 wc w.heap.size (fun k_=>(some k_≠(.slice As A6.length At:Value).ownBlock∧k_≠Aa)∧k_ < b_) v109 A4))
   case first =>
    have H:=HC16.out;clear HC16;replace H:=ob H;obtain ⟨Ao,A300,H⟩:=H;replace H:(if Ao=true then (if Ai=A3 then (laws_FnExactWin.j0 k l0 A4 A3 A7 A6 A8 Ai Ak (Ak != A7) a1_0 a1_1) else (laws_FnExactWin.j0 k l0 A4 A3 A7 A6 A8 Ai Ak true a1_0 a1_1)) else (laws_FnExactWin.j0 k l0 A4 A3 A7 A6 A8 Ai Ak true a1_0 a1_1))=some r:=H;have A30:=Aside0.mk A300;clear A300
    by_cases c31:Ao=true
    ·subst c31
     have H1:(if Ai=A3 then (laws_FnExactWin.j0 k l0 A4 A3 A7 A6 A8 Ai Ak (Ak != A7) a1_0 a1_1) else (laws_FnExactWin.j0 k l0 A4 A3 A7 A6 A8 Ai Ak true a1_0 a1_1))=some r:=by rw [if_pos rfl] at H;exact H
     clear H;have H:=H1;clear H1
     by_cases c32:Ai=A3
     ·rw [if_pos c32] at H;have c32b0:(Ai == A3)=true:=beq_iff_eq.mpr c32;have c32b1:(Ai != A3)=false:=bne_eq_false_iff_eq.mpr c32;clear c32;(first|rw [c32b0]|(simp only [i64_w,i32_w];rw [c32b0])|skip);have H':=Aside0.mk H;clear H;obtain ⟨Ao33,co33,eo33⟩:=Kd.N_slice Ah.out;subst eo33;obtain ⟨Ao34,co34,eo34⟩:=Kd.N_slice Ab.out;subst eo34;go_wp2_with (first|((with_reducible refine gate_callee (f:=47) rfl ?_);refine goesL_ (some 48) rfl rfl Try.func47 (by kernel_rfl) rfl #[.slice Ao33 A8.length co33,.slice Ao34 A4.length co34] rfl ml ?_;(with_reducible refine (laws_eqPickS.calls k _ _ A8 _ _ A4 true _ ?side1 ?side2 ?side3 ?side4 A30.out).mono ?_);(case side1=>repeat (first|exact (Kd.N_reads' Ah.out).2.2|(with_reducible refine Kd.C_alloc ?_ _)|(with_reducible refine Kd.C_drewN ?_ _)|(with_reducible refine Kd.C_drew ?_)));(case side2=>exact (Kd.N_reads' Ah.out).2.1);(case side3=>repeat (first|exact (Kd.N_reads' Ab.out).2.2|(with_reducible refine Kd.C_alloc ?_ _)|(with_reducible refine Kd.C_drewN ?_ _)|(with_reducible refine Kd.C_drew ?_)));(case side4=>exact (Kd.N_reads' Ab.out).2.1);rintro e w35 ⟨rfl,hb⟩;refine ⟨_,rfl,?_⟩;have n0_:=rb Ac hb;have n1_:=Aside0.mk (Kd.N_below (by (with_reducible repeat (first|apply Kd.N_alloc|apply Kd.N_drewN|apply Kd.N_drew));exact Ab.out) hb);have n2_:=rb Ag hb;have HSX:=Aside0.mk (Kd.S_below (by (with_reducible repeat (first|apply Kd.S_alloc|apply Kd.S_drewN|apply Kd.S_drew));exact HSX.out) hb);have HNX:=Aside0.mk (Kd.N_below (by (with_reducible repeat (first|apply Kd.N_alloc|apply Kd.N_drewN|apply Kd.N_drew));exact HNX.out) hb);have n3_:=Aside0.mk (Kd.N_below (by (with_reducible repeat (first|apply Kd.N_alloc|apply Kd.N_drewN|apply Kd.N_drew));exact Ah.out) hb);have n4_:=bb A1 hb;have n5_:=bs1 HB hb Ae;clear Ac;clear Ab;clear Ag;clear Ah;clear A1;clear HB;have Ac:=n0_;have Ab:=n1_;have Ag:=n2_;have Ah:=n3_;have A1:=n4_;have HB:=n5_;clear n0_ n1_ n2_ n3_ n4_ n5_;(try clear hb);(try clear hb2);(try clear hk);(try clear hi)));go_meet
      case rel=>exact ⟨_,((Ak != A7)),(by first|rfl|(simp;done)|(simp [*];done)),H',⟨by first|omega|exact Nat.le_refl _⟩,⟨by (with_reducible repeat (first|apply Kd.N_alloc|apply Kd.N_drewN|apply Kd.N_drew));exact Kd.N_mono Ab.out (fun _ hk=>⟨hk.1.2,⟨hk.2,hk.1.1.2⟩⟩)⟩,⟨by (with_reducible repeat (first|apply Kd.R_alloc|apply Kd.R_drewN|apply Kd.R_drew));exact Kd.R_mono Ag.out (fun _ hk=>trivial)⟩,⟨by (with_reducible repeat (first|apply Kd.N_alloc|apply Kd.N_drewN|apply Kd.N_drew));exact Kd.N_mono Ah.out (fun _ hk=>⟨hk.2.1,⟨hk.2.2.1,hk.2.2.2⟩⟩)⟩,⟨dr A1⟩,⟨by exact tb HB⟩,⟨(by (with_reducible repeat (first|apply Kd.S_alloc|apply Kd.S_drewN|apply Kd.S_drew));exact HSX.out)⟩,⟨by (with_reducible repeat (first|apply Kd.N_alloc|apply Kd.N_drewN|apply Kd.N_drew));exact Kd.N_mono HNX.out (fun _ hk=>⟨⟨hk.1.2,hk.1.1.2⟩,hk.2⟩)⟩⟩
     ·rw [if_neg c32] at H;have c32b0:(Ai == A3)=false:=beq_eq_false_iff_ne.mpr c32;have c32b1:(Ai != A3)=true:=bne_iff_ne.mpr c32;(first|rw [c32b0]|(simp only [i64_w,i32_w];rw [c32b0])|skip);have H':=Aside0.mk H;clear H;obtain ⟨Ao36,co36,eo36⟩:=Kd.N_slice Ah.out;subst eo36;obtain ⟨Ao37,co37,eo37⟩:=Kd.N_slice Ab.out;subst eo37;go_wp2_with (first|((with_reducible refine gate_callee (f:=47) rfl ?_);refine goesL_ (some 48) rfl rfl Try.func47 (by kernel_rfl) rfl #[.slice Ao36 A8.length co36,.slice Ao37 A4.length co37] rfl ml ?_;(with_reducible refine (laws_eqPickS.calls k _ _ A8 _ _ A4 true _ ?side1 ?side2 ?side3 ?side4 A30.out).mono ?_);(case side1=>repeat (first|exact (Kd.N_reads' Ah.out).2.2|(with_reducible refine Kd.C_alloc ?_ _)|(with_reducible refine Kd.C_drewN ?_ _)|(with_reducible refine Kd.C_drew ?_)));(case side2=>exact (Kd.N_reads' Ah.out).2.1);(case side3=>repeat (first|exact (Kd.N_reads' Ab.out).2.2|(with_reducible refine Kd.C_alloc ?_ _)|(with_reducible refine Kd.C_drewN ?_ _)|(with_reducible refine Kd.C_drew ?_)));(case side4=>exact (Kd.N_reads' Ab.out).2.1);rintro e w38 ⟨rfl,hb⟩;refine ⟨_,rfl,?_⟩;have n0_:=rb Ac hb;have n1_:=Aside0.mk (Kd.N_below (by (with_reducible repeat (first|apply Kd.N_alloc|apply Kd.N_drewN|apply Kd.N_drew));exact Ab.out) hb);have n2_:=rb Ag hb;have HSX:=Aside0.mk (Kd.S_below (by (with_reducible repeat (first|apply Kd.S_alloc|apply Kd.S_drewN|apply Kd.S_drew));exact HSX.out) hb);have HNX:=Aside0.mk (Kd.N_below (by (with_reducible repeat (first|apply Kd.N_alloc|apply Kd.N_drewN|apply Kd.N_drew));exact HNX.out) hb);have n3_:=Aside0.mk (Kd.N_below (by (with_reducible repeat (first|apply Kd.N_alloc|apply Kd.N_drewN|apply Kd.N_drew));exact Ah.out) hb);have n4_:=bb A1 hb;have n5_:=bs1 HB hb Ae;clear Ac;clear Ab;clear Ag;clear Ah;clear A1;clear HB;have Ac:=n0_;have Ab:=n1_;have Ag:=n2_;have Ah:=n3_;have A1:=n4_;have HB:=n5_;clear n0_ n1_ n2_ n3_ n4_ n5_;(try clear hb);(try clear hb2);(try clear hk);(try clear hi)));go_meet
      case rel=>exact ⟨_,(true),(by first|rfl|(simp;done)|(simp [*];done)),H',⟨by first|omega|exact Nat.le_refl _⟩,⟨by (with_reducible repeat (first|apply Kd.N_alloc|apply Kd.N_drewN|apply Kd.N_drew));exact Kd.N_mono Ab.out (fun _ hk=>⟨hk.1.2,⟨hk.2,hk.1.1.2⟩⟩)⟩,⟨by (with_reducible repeat (first|apply Kd.R_alloc|apply Kd.R_drewN|apply Kd.R_drew));exact Kd.R_mono Ag.out (fun _ hk=>trivial)⟩,⟨by (with_reducible repeat (first|apply Kd.N_alloc|apply Kd.N_drewN|apply Kd.N_drew));exact Kd.N_mono Ah.out (fun _ hk=>⟨hk.2.1,⟨hk.2.2.1,hk.2.2.2⟩⟩)⟩,⟨dr A1⟩,⟨by exact tb HB⟩,⟨(by (with_reducible repeat (first|apply Kd.S_alloc|apply Kd.S_drewN|apply Kd.S_drew));exact HSX.out)⟩,⟨by (with_reducible repeat (first|apply Kd.N_alloc|apply Kd.N_drewN|apply Kd.N_drew));exact Kd.N_mono HNX.out (fun _ hk=>⟨⟨hk.1.2,hk.1.1.2⟩,hk.2⟩)⟩⟩
    ·replace c31:=Bool.eq_false_iff.mpr c31;subst c31
     have H1:(laws_FnExactWin.j0 k l0 A4 A3 A7 A6 A8 Ai Ak true a1_0 a1_1)=some r:=by rw [if_neg (show ¬ (false=true) by decide)] at H;exact H
     clear H;have H:=H1;clear H1;have H':=Aside0.mk H;clear H;obtain ⟨Ao39,co39,eo39⟩:=Kd.N_slice Ah.out;subst eo39;obtain ⟨Ao40,co40,eo40⟩:=Kd.N_slice Ab.out;subst eo40;go_wp2_with (first|((with_reducible refine gate_callee (f:=47) rfl ?_);refine goesL_ (some 48) rfl rfl Try.func47 (by kernel_rfl) rfl #[.slice Ao39 A8.length co39,.slice Ao40 A4.length co40] rfl ml ?_;(with_reducible refine (laws_eqPickS.calls k _ _ A8 _ _ A4 false _ ?side1 ?side2 ?side3 ?side4 A30.out).mono ?_);(case side1=>repeat (first|exact (Kd.N_reads' Ah.out).2.2|(with_reducible refine Kd.C_alloc ?_ _)|(with_reducible refine Kd.C_drewN ?_ _)|(with_reducible refine Kd.C_drew ?_)));(case side2=>exact (Kd.N_reads' Ah.out).2.1);(case side3=>repeat (first|exact (Kd.N_reads' Ab.out).2.2|(with_reducible refine Kd.C_alloc ?_ _)|(with_reducible refine Kd.C_drewN ?_ _)|(with_reducible refine Kd.C_drew ?_)));(case side4=>exact (Kd.N_reads' Ab.out).2.1);rintro e w41 ⟨rfl,hb⟩;refine ⟨_,rfl,?_⟩;have n0_:=rb Ac hb;have n1_:=Aside0.mk (Kd.N_below (by (with_reducible repeat (first|apply Kd.N_alloc|apply Kd.N_drewN|apply Kd.N_drew));exact Ab.out) hb);have n2_:=rb Ag hb;have HSX:=Aside0.mk (Kd.S_below (by (with_reducible repeat (first|apply Kd.S_alloc|apply Kd.S_drewN|apply Kd.S_drew));exact HSX.out) hb);have HNX:=Aside0.mk (Kd.N_below (by (with_reducible repeat (first|apply Kd.N_alloc|apply Kd.N_drewN|apply Kd.N_drew));exact HNX.out) hb);have n3_:=Aside0.mk (Kd.N_below (by (with_reducible repeat (first|apply Kd.N_alloc|apply Kd.N_drewN|apply Kd.N_drew));exact Ah.out) hb);have n4_:=bb A1 hb;have n5_:=bs1 HB hb Ae;clear Ac;clear Ab;clear Ag;clear Ah;clear A1;clear HB;have Ac:=n0_;have Ab:=n1_;have Ag:=n2_;have Ah:=n3_;have A1:=n4_;have HB:=n5_;clear n0_ n1_ n2_ n3_ n4_ n5_;(try clear hb);(try clear hb2);(try clear hk);(try clear hi)));go_meet
     case rel=>exact ⟨_,(true),(by first|rfl|(simp;done)|(simp [*];done)),H',⟨by first|omega|exact Nat.le_refl _⟩,⟨by (with_reducible repeat (first|apply Kd.N_alloc|apply Kd.N_drewN|apply Kd.N_drew));exact Kd.N_mono Ab.out (fun _ hk=>⟨hk.1.2,⟨hk.2,hk.1.1.2⟩⟩)⟩,⟨by (with_reducible repeat (first|apply Kd.R_alloc|apply Kd.R_drewN|apply Kd.R_drew));exact Kd.R_mono Ag.out (fun _ hk=>trivial)⟩,⟨by (with_reducible repeat (first|apply Kd.N_alloc|apply Kd.N_drewN|apply Kd.N_drew));exact Kd.N_mono Ah.out (fun _ hk=>⟨hk.2.1,⟨hk.2.2.1,hk.2.2.2⟩⟩)⟩,⟨dr A1⟩,⟨by exact tb HB⟩,⟨(by (with_reducible repeat (first|apply Kd.S_alloc|apply Kd.S_drewN|apply Kd.S_drew));exact HSX.out)⟩,⟨by (with_reducible repeat (first|apply Kd.N_alloc|apply Kd.N_drewN|apply Kd.N_drew));exact Kd.N_mono HNX.out (fun _ hk=>⟨⟨hk.1.2,hk.1.1.2⟩,hk.2⟩)⟩⟩
   case rest =>
    clear HC16;(try clear c1);(try clear p2);(try clear c3);(try clear c3b0);(try clear c3b1);(try clear c4);(try clear c6);(try clear c6b0);(try clear c12);(try clear c15);(try clear c17);(try clear c18);(try clear c31);(try clear c32);(try clear c32b0);(try clear c32b1);(try clear hcz18__);(try clear hcz26__);(try clear hcz8__);(try clear hfz18__);(try clear hfz26__);(try clear hfz8__);obtain ⟨kq,B0,rfl,HA,HJ15,A9,Ap,A2,A1,HB,HSX,HNX⟩:=hcut
    cases kq with
        | zero=>exact absurd HA.out (by simp [laws_FnExactWin.j0])
        | succ kj15 =>
     have H:=HA.out;clear HA;simp only [laws_FnExactWin.j0] at H
     by_cases c42:B0=true
     ·subst c42
      have H1:(some false)=some r:=by rw [if_pos rfl] at H;exact H
      clear H;have H:=H1;clear H1;exact absurd ((Option.some.inj H).trans HT.out) (by decide)
     ·replace c42:=Bool.eq_false_iff.mpr c42;subst c42
      have H1:((laws_toBoolS.f kj15 l0).bind fun Ay=>((laws_eqBoolS.f kj15 A6 Ay).bind fun B5=>(if B5=true then ((laws_markBoolS.f kj15 A6 1).bind fun bt128=>(if bt128.1 < 0 then (laws_FnExactWin.j1 kj15 l0 A4 A3 A7 A8 true a1_0 a1_1) else ((laws_eqPickS.f kj15 A8 A4).bind fun Au=>(if Au=true then (if Ai=A3 then (laws_FnExactWin.j1 kj15 l0 A4 A3 A7 A8 (Ak != A7) a1_0 a1_1) else (laws_FnExactWin.j1 kj15 l0 A4 A3 A7 A8 true a1_0 a1_1)) else (laws_FnExactWin.j1 kj15 l0 A4 A3 A7 A8 true a1_0 a1_1))))) else (some false))))=some r:=by rw [if_neg (show ¬ (false=true) by decide)] at H;exact H
      clear H;have H:=H1;clear H1;replace H:=ob H;obtain ⟨Ay,A430,H⟩:=H;replace H:((laws_eqBoolS.f kj15 A6 Ay).bind fun B5=>(if B5=true then ((laws_markBoolS.f kj15 A6 1).bind fun bt128=>(if bt128.1 < 0 then (laws_FnExactWin.j1 kj15 l0 A4 A3 A7 A8 true a1_0 a1_1) else ((laws_eqPickS.f kj15 A8 A4).bind fun Au=>(if Au=true then (if Ai=A3 then (laws_FnExactWin.j1 kj15 l0 A4 A3 A7 A8 (Ak != A7) a1_0 a1_1) else (laws_FnExactWin.j1 kj15 l0 A4 A3 A7 A8 true a1_0 a1_1)) else (laws_FnExactWin.j1 kj15 l0 A4 A3 A7 A8 true a1_0 a1_1))))) else (some false)))=some r:=H;have A43:=Aside0.mk A430;clear A430;replace H:=ob H;obtain ⟨B5,A440,H⟩:=H;replace H:(if B5=true then ((laws_markBoolS.f kj15 A6 1).bind fun bt128=>(if bt128.1 < 0 then (laws_FnExactWin.j1 kj15 l0 A4 A3 A7 A8 true a1_0 a1_1) else ((laws_eqPickS.f kj15 A8 A4).bind fun Au=>(if Au=true then (if Ai=A3 then (laws_FnExactWin.j1 kj15 l0 A4 A3 A7 A8 (Ak != A7) a1_0 a1_1) else (laws_FnExactWin.j1 kj15 l0 A4 A3 A7 A8 true a1_0 a1_1)) else (laws_FnExactWin.j1 kj15 l0 A4 A3 A7 A8 true a1_0 a1_1))))) else (some false))=some r:=H;have A44:=Aside0.mk A440;clear A440
      by_cases c45:B5=true
      ·subst c45
       have H1:((laws_markBoolS.f kj15 A6 1).bind fun bt128=>(if bt128.1 < 0 then (laws_FnExactWin.j1 kj15 l0 A4 A3 A7 A8 true a1_0 a1_1) else ((laws_eqPickS.f kj15 A8 A4).bind fun Au=>(if Au=true then (if Ai=A3 then (laws_FnExactWin.j1 kj15 l0 A4 A3 A7 A8 (Ak != A7) a1_0 a1_1) else (laws_FnExactWin.j1 kj15 l0 A4 A3 A7 A8 true a1_0 a1_1)) else (laws_FnExactWin.j1 kj15 l0 A4 A3 A7 A8 true a1_0 a1_1)))))=some r:=by rw [if_pos rfl] at H;exact H
       clear H;have H:=H1;clear H1;replace H:=ob H;obtain ⟨⟨B8,t129⟩,A460,H⟩:=H;replace H:(if B8 < 0 then (laws_FnExactWin.j1 kj15 l0 A4 A3 A7 A8 true a1_0 a1_1) else ((laws_eqPickS.f kj15 A8 A4).bind fun Au=>(if Au=true then (if Ai=A3 then (laws_FnExactWin.j1 kj15 l0 A4 A3 A7 A8 (Ak != A7) a1_0 a1_1) else (laws_FnExactWin.j1 kj15 l0 A4 A3 A7 A8 true a1_0 a1_1)) else (laws_FnExactWin.j1 kj15 l0 A4 A3 A7 A8 true a1_0 a1_1))))=some r:=H;have A46:=Aside0.mk A460;clear A460;have HC47:=Aside0.mk H;clear H
       go_upto_region 16 with (first|((with_reducible refine gate_callee (f:=17) rfl ?_);refine goesL_ (some 62) rfl rfl Try.func17 (by kernel_rfl) rfl #[.slice A0 l0.length c0] rfl ml ?_;(with_reducible refine (laws_toBoolS.calls kj15 _ _ l0 Ay _ ?side1 ?side2 A43.out).mono ?_);(case side1=>exact cw (Kd.C_below HR0.out HB.out));(case side2=>exact HC0.out);rintro e w48 ⟨v125,rfl,ho0,hb⟩;refine ⟨_,rfl,?_⟩;have n0_:=Aside0.mk (Kd.N_elder' (by (with_reducible repeat (first|apply Kd.N_alloc|apply Kd.N_drewN|apply Kd.N_drew));exact A9.out) (Kd.R_base ho0) hb);have n1_:=re Ap (Kd.R_base ho0) hb;have HSX:=Aside0.mk (Kd.S_below (by (with_reducible repeat (first|apply Kd.S_alloc|apply Kd.S_drewN|apply Kd.S_drew));exact HSX.out) hb);have HNX:=Aside0.mk (Kd.N_below (by (with_reducible repeat (first|apply Kd.N_alloc|apply Kd.N_drewN|apply Kd.N_drew));exact HNX.out) hb);have n2_:=Aside0.mk (Kd.N_elder' (by (with_reducible repeat (first|apply Kd.N_alloc|apply Kd.N_drewN|apply Kd.N_drew));exact A2.out) (Kd.R_base ho0) hb);have n3_:=Aside0.mk (Kd.R_lower (Kd.R_new' ho0 (Kd.R_lt (ra Ap))) (below_size (tb HB)));have n4_:=bb A1 hb;have n5_:=bs1 HB hb Ae;clear A9;clear Ap;clear A2;clear A1;clear HB;have A9:=n0_;have Ap:=n1_;have A2:=n2_;have Am:=n3_;have A1:=n4_;have HB:=n5_;clear n0_ n1_ n2_ n3_ n4_ n5_;(try clear hb);(try clear hb2);(try clear hk);(try clear hi);(try clear ho0);obtain ⟨Bj,Bk,eo49⟩:=Kd.R_slice Am.out;subst eo49)|((with_reducible refine gate_callee (f:=20) rfl ?_);refine goesL_ (some 63) rfl rfl Try.func20 (by kernel_rfl) rfl #[.slice As A6.length At,.slice Bj Ay.length Bk] rfl ml ?_;(with_reducible refine (laws_eqBoolS.calls kj15 _ _ A6 _ _ Ay true _ ?side1 ?side2 ?side3 ?side4 A44.out).mono ?_);(case side1=>exact cw (Kd.R_reads' Ap.out).2.2);(case side2=>exact (Kd.R_reads' Ap.out).2.1);(case side3=>exact cw (Kd.R_reads' Am.out).2.2);(case side4=>exact (Kd.R_reads' Am.out).2.1);rintro e w' ⟨rfl,⟨nd,rfl⟩⟩;refine ⟨_,rfl,?_⟩)|((with_reducible refine gate_callee (f:=26) rfl ?_);refine goesL_ (some 67) rfl rfl Try.func26 (by kernel_rfl) rfl #[.slice As A6.length At,.int .i64 1] rfl ml ?_;(with_reducible refine (laws_markBoolS.calls kj15 (fun k_=>some k_=(.slice As A6.length At:Value).ownBlock) (.slice As A6.length At) A6 1 B8 t129 w _ ?side1 ?side2 A46.out).mono ?_);(case side1=>exact tb HB);(case side2=>exact Kd.R_tight rfl Ap.out);rintro e w50 ⟨rfl,hy0,hb,hkp⟩;refine ⟨_,rfl,?_⟩;have HSX:=Aside0.mk (Kd.S_kept (by (with_reducible repeat (first|apply Kd.S_alloc|apply Kd.S_drewN|apply Kd.S_drew));exact HSX.out) hkp (fun k_ hk_ hs_=>by have h1:b_≤k_:=hk_;have h2:=HGX.out.2.2.1 k_ hs_.symm;omega));have HNX:=Aside0.mk (Kd.N_kept (by (with_reducible repeat (first|apply Kd.N_alloc|apply Kd.N_drewN|apply Kd.N_drew));exact HNX.out) hkp (fun k_ hk_ hs_=>by exact hk_.1.1 hs_));replace A9:=Aside0.mk (Kd.N_mono (ok':=fun k_=>some k_≠(.slice As A6.length At:Value).ownBlock∧some k_≠(v119:Value).ownBlock∧some k_≠(.slice Bj Ay.length Bk:Value).ownBlock∧k_≠Aa) (Kd.N_keptB (A9.out) hkp (fun k_ hk_ hs_=>(hk_.1.1) hs_)) (fun k_ hk_=>⟨hk_.1.1.1,hk_.1.1.2.1,hk_.1.2,hk_.1.1.2.2⟩));replace A2:=Aside0.mk (Kd.N_mono (ok':=fun k_=>some k_≠(v109:Value).ownBlock∧some k_≠(.slice As A6.length At:Value).ownBlock∧some k_≠(.slice Bj Ay.length Bk:Value).ownBlock∧k_≠Aa) (Kd.N_keptB (A2.out) hkp (fun k_ hk_ hs_=>(hk_.1.2.1) hs_)) (fun k_ hk_=>⟨hk_.1.1.1,hk_.1.1.2.1,hk_.1.2,hk_.1.1.2.2⟩));replace A1:=Aside0.mk (blk_kept (dr A1) hkp (fun hs_=>(fun e_=>(Kd.R_ne Ap.out A1.out (by decide)) e_) hs_));replace Ap:=Aside0.mk (Kd.R_reok rfl hy0 (fun k_ e_=>Ap.out.1 k_ e_));replace Am:=Aside0.mk (Kd.R_mono (ok':=fun k_=>some k_≠(.slice As A6.length At:Value).ownBlock) (Kd.R_keptB (Am.out) hkp (fun k_ hk_ hs_=>(hk_.2) hs_)) (fun k_ hk_=>hk_.1.2));replace HB:=Aside0.mk (hb);(try clear hb);(try clear hkp);(try clear hy0)))
       (try simp only [Act.put,List.setIfInBounds_toArray,List.set_cons_zero,List.set_cons_succ])
       go_cut [85] (fun v85 wc=>∃ (kq:Nat) (B1:Bool),v85 = .bool B1∧Aside0 (laws_FnExactWin.j1 kq l0 A4 A3 A7 A8 B1 a1_0 a1_1=some r)∧Aside0 (kq≤kj15)∧Aside0 (Kd.N k108 108 wc w.heap.size (fun k_=>some k_≠(v119:Value).ownBlock∧k_≠Aa) v109 A4)∧Aside0 (Kd.N k108 108 wc w.heap.size (fun k_=>some k_≠(v109:Value).ownBlock∧k_≠Aa) v119 A8)∧Aside0 (wc.heap[Aa]? = some (.cells #[.int .i64 a1_0,.string a1_1] 24 (0,0)))∧Aside0 (Below w.heap.size w wc)∧Aside0 (Kd.S k108 108 wc w.heap.size (fun k_=>b_≤k_) v119 A8)∧Aside0 (Kd.N k108 108 wc w.heap.size (fun k_=>(some k_≠(.slice As A6.length At:Value).ownBlock∧k_≠Aa)∧k_ < b_) v109 A4))
       case first =>
        have H:=HC47.out;clear HC47
        by_cases c51:B8 < 0
        ·rw [if_pos c51] at H;have c51b0:decide (B8 < 0)=true:=decide_eq_true c51;clear c51;(first|rw [c51b0]|(simp only [i64_w,i32_w];rw [c51b0])|skip);have H':=Aside0.mk H;clear H;go_wp2;go_meet
         case rel=>exact ⟨_,(true),(by first|rfl|(simp;done)|(simp [*];done)),H',⟨by have:=HJ15.out;first|omega|exact Nat.le_refl _⟩,⟨by (with_reducible repeat (first|apply Kd.N_alloc|apply Kd.N_drewN|apply Kd.N_drew));exact Kd.N_mono A9.out (fun _ hk=>⟨hk.2.1,hk.2.2.2⟩)⟩,⟨by (with_reducible repeat (first|apply Kd.N_alloc|apply Kd.N_drewN|apply Kd.N_drew));exact Kd.N_mono A2.out (fun _ hk=>⟨hk.1,hk.2.2.2⟩)⟩,⟨dr A1⟩,⟨by exact tb HB⟩,⟨(by (with_reducible repeat (first|apply Kd.S_alloc|apply Kd.S_drewN|apply Kd.S_drew));exact HSX.out)⟩,⟨by (with_reducible repeat (first|apply Kd.N_alloc|apply Kd.N_drewN|apply Kd.N_drew));exact Kd.N_mono HNX.out (fun _ hk=>hk)⟩⟩
        ·rw [if_neg c51] at H;have c51b0:decide (B8 < 0)=false:=decide_eq_false c51;clear c51;(first|rw [c51b0]|(simp only [i64_w,i32_w];rw [c51b0])|skip);replace H:=ob H;obtain ⟨Au,A520,H⟩:=H;replace H:(if Au=true then (if Ai=A3 then (laws_FnExactWin.j1 kj15 l0 A4 A3 A7 A8 (Ak != A7) a1_0 a1_1) else (laws_FnExactWin.j1 kj15 l0 A4 A3 A7 A8 true a1_0 a1_1)) else (laws_FnExactWin.j1 kj15 l0 A4 A3 A7 A8 true a1_0 a1_1))=some r:=H;have A52:=Aside0.mk A520;clear A520
         by_cases c53:Au=true
         ·subst c53
          have H1:(if Ai=A3 then (laws_FnExactWin.j1 kj15 l0 A4 A3 A7 A8 (Ak != A7) a1_0 a1_1) else (laws_FnExactWin.j1 kj15 l0 A4 A3 A7 A8 true a1_0 a1_1))=some r:=by rw [if_pos rfl] at H;exact H
          clear H;have H:=H1;clear H1
          by_cases c54:Ai=A3
          ·rw [if_pos c54] at H;have c54b0:(Ai == A3)=true:=beq_iff_eq.mpr c54;have c54b1:(Ai != A3)=false:=bne_eq_false_iff_eq.mpr c54;clear c54;have H':=Aside0.mk H;clear H;obtain ⟨Ao55,co55,eo55⟩:=Kd.N_slice A2.out;subst eo55;obtain ⟨Ao56,co56,eo56⟩:=Kd.N_slice A9.out;subst eo56;go_wp2_with (first|(go_at_call 47;(try simp only [i64_w,i32_w]);(with_reducible refine (laws_eqPickS.calls kj15 _ _ A8 _ _ A4 true _ ?side1 ?side2 ?side3 ?side4 A52.out).mono ?_);(case side1=>repeat (first|exact (Kd.N_reads' A2.out).2.2|(with_reducible refine Kd.C_alloc ?_ _)|(with_reducible refine Kd.C_drewN ?_ _)|(with_reducible refine Kd.C_drew ?_)));(case side2=>exact (Kd.N_reads' A2.out).2.1);(case side3=>repeat (first|exact (Kd.N_reads' A9.out).2.2|(with_reducible refine Kd.C_alloc ?_ _)|(with_reducible refine Kd.C_drewN ?_ _)|(with_reducible refine Kd.C_drew ?_)));(case side4=>exact (Kd.N_reads' A9.out).2.1);rintro e w57 ⟨rfl,hb⟩;have n0_:=Aside0.mk (Kd.N_below (by (with_reducible repeat (first|apply Kd.N_alloc|apply Kd.N_drewN|apply Kd.N_drew));exact A9.out) hb);have n1_:=rb Ap hb;have HSX:=Aside0.mk (Kd.S_below (by (with_reducible repeat (first|apply Kd.S_alloc|apply Kd.S_drewN|apply Kd.S_drew));exact HSX.out) hb);have HNX:=Aside0.mk (Kd.N_below (by (with_reducible repeat (first|apply Kd.N_alloc|apply Kd.N_drewN|apply Kd.N_drew));exact HNX.out) hb);have n2_:=Aside0.mk (Kd.N_below (by (with_reducible repeat (first|apply Kd.N_alloc|apply Kd.N_drewN|apply Kd.N_drew));exact A2.out) hb);have n3_:=rb Am hb;have n4_:=bb A1 hb;have n5_:=bs1 HB hb Ae;clear A9;clear Ap;clear A2;clear Am;clear A1;clear HB;have A9:=n0_;have Ap:=n1_;have A2:=n2_;have Am:=n3_;have A1:=n4_;have HB:=n5_;clear n0_ n1_ n2_ n3_ n4_ n5_;(try clear hb);(try clear hb2);(try clear hk);(try clear hi)));go_meet
           case rel=>exact ⟨_,((Ak != A7)),(by first|rfl|(simp;done)|(simp [*];done)),H',⟨by have:=HJ15.out;first|omega|exact Nat.le_refl _⟩,⟨by (with_reducible repeat (first|apply Kd.N_alloc|apply Kd.N_drewN|apply Kd.N_drew));exact Kd.N_mono A9.out (fun _ hk=>⟨hk.2.1,hk.2.2.2⟩)⟩,⟨by (with_reducible repeat (first|apply Kd.N_alloc|apply Kd.N_drewN|apply Kd.N_drew));exact Kd.N_mono A2.out (fun _ hk=>⟨hk.1,hk.2.2.2⟩)⟩,⟨dr A1⟩,⟨by exact tb HB⟩,⟨(by (with_reducible repeat (first|apply Kd.S_alloc|apply Kd.S_drewN|apply Kd.S_drew));exact HSX.out)⟩,⟨by (with_reducible repeat (first|apply Kd.N_alloc|apply Kd.N_drewN|apply Kd.N_drew));exact Kd.N_mono HNX.out (fun _ hk=>hk)⟩⟩
          ·rw [if_neg c54] at H;have c54b0:(Ai == A3)=false:=beq_eq_false_iff_ne.mpr c54;have c54b1:(Ai != A3)=true:=bne_iff_ne.mpr c54;have H':=Aside0.mk H;clear H;obtain ⟨Ao58,co58,eo58⟩:=Kd.N_slice A2.out;subst eo58;obtain ⟨Ao59,co59,eo59⟩:=Kd.N_slice A9.out;subst eo59;go_wp2_with (first|(go_at_call 47;(try simp only [i64_w,i32_w]);(with_reducible refine (laws_eqPickS.calls kj15 _ _ A8 _ _ A4 true _ ?side1 ?side2 ?side3 ?side4 A52.out).mono ?_);(case side1=>repeat (first|exact (Kd.N_reads' A2.out).2.2|(with_reducible refine Kd.C_alloc ?_ _)|(with_reducible refine Kd.C_drewN ?_ _)|(with_reducible refine Kd.C_drew ?_)));(case side2=>exact (Kd.N_reads' A2.out).2.1);(case side3=>repeat (first|exact (Kd.N_reads' A9.out).2.2|(with_reducible refine Kd.C_alloc ?_ _)|(with_reducible refine Kd.C_drewN ?_ _)|(with_reducible refine Kd.C_drew ?_)));(case side4=>exact (Kd.N_reads' A9.out).2.1);rintro e w60 ⟨rfl,hb⟩;have n0_:=Aside0.mk (Kd.N_below (by (with_reducible repeat (first|apply Kd.N_alloc|apply Kd.N_drewN|apply Kd.N_drew));exact A9.out) hb);have n1_:=rb Ap hb;have HSX:=Aside0.mk (Kd.S_below (by (with_reducible repeat (first|apply Kd.S_alloc|apply Kd.S_drewN|apply Kd.S_drew));exact HSX.out) hb);have HNX:=Aside0.mk (Kd.N_below (by (with_reducible repeat (first|apply Kd.N_alloc|apply Kd.N_drewN|apply Kd.N_drew));exact HNX.out) hb);have n2_:=Aside0.mk (Kd.N_below (by (with_reducible repeat (first|apply Kd.N_alloc|apply Kd.N_drewN|apply Kd.N_drew));exact A2.out) hb);have n3_:=rb Am hb;have n4_:=bb A1 hb;have n5_:=bs1 HB hb Ae;clear A9;clear Ap;clear A2;clear Am;clear A1;clear HB;have A9:=n0_;have Ap:=n1_;have A2:=n2_;have Am:=n3_;have A1:=n4_;have HB:=n5_;clear n0_ n1_ n2_ n3_ n4_ n5_;(try clear hb);(try clear hb2);(try clear hk);(try clear hi)));go_meet
           case rel=>exact ⟨_,(true),(by first|rfl|(simp;done)|(simp [*];done)),H',⟨by have:=HJ15.out;first|omega|exact Nat.le_refl _⟩,⟨by (with_reducible repeat (first|apply Kd.N_alloc|apply Kd.N_drewN|apply Kd.N_drew));exact Kd.N_mono A9.out (fun _ hk=>⟨hk.2.1,hk.2.2.2⟩)⟩,⟨by (with_reducible repeat (first|apply Kd.N_alloc|apply Kd.N_drewN|apply Kd.N_drew));exact Kd.N_mono A2.out (fun _ hk=>⟨hk.1,hk.2.2.2⟩)⟩,⟨dr A1⟩,⟨by exact tb HB⟩,⟨(by (with_reducible repeat (first|apply Kd.S_alloc|apply Kd.S_drewN|apply Kd.S_drew));exact HSX.out)⟩,⟨by (with_reducible repeat (first|apply Kd.N_alloc|apply Kd.N_drewN|apply Kd.N_drew));exact Kd.N_mono HNX.out (fun _ hk=>hk)⟩⟩
         ·replace c53:=Bool.eq_false_iff.mpr c53;subst c53
          have H1:(laws_FnExactWin.j1 kj15 l0 A4 A3 A7 A8 true a1_0 a1_1)=some r:=by rw [if_neg (show ¬ (false=true) by decide)] at H;exact H
          clear H;have H:=H1;clear H1;have H':=Aside0.mk H;clear H;obtain ⟨Ao61,co61,eo61⟩:=Kd.N_slice A2.out;subst eo61;obtain ⟨Ao62,co62,eo62⟩:=Kd.N_slice A9.out;subst eo62;go_wp2_with (first|(go_at_call 47;(try simp only [i64_w,i32_w]);(with_reducible refine (laws_eqPickS.calls kj15 _ _ A8 _ _ A4 false _ ?side1 ?side2 ?side3 ?side4 A52.out).mono ?_);(case side1=>repeat (first|exact (Kd.N_reads' A2.out).2.2|(with_reducible refine Kd.C_alloc ?_ _)|(with_reducible refine Kd.C_drewN ?_ _)|(with_reducible refine Kd.C_drew ?_)));(case side2=>exact (Kd.N_reads' A2.out).2.1);(case side3=>repeat (first|exact (Kd.N_reads' A9.out).2.2|(with_reducible refine Kd.C_alloc ?_ _)|(with_reducible refine Kd.C_drewN ?_ _)|(with_reducible refine Kd.C_drew ?_)));(case side4=>exact (Kd.N_reads' A9.out).2.1);rintro e w63 ⟨rfl,hb⟩;have n0_:=Aside0.mk (Kd.N_below (by (with_reducible repeat (first|apply Kd.N_alloc|apply Kd.N_drewN|apply Kd.N_drew));exact A9.out) hb);have n1_:=rb Ap hb;have HSX:=Aside0.mk (Kd.S_below (by (with_reducible repeat (first|apply Kd.S_alloc|apply Kd.S_drewN|apply Kd.S_drew));exact HSX.out) hb);have HNX:=Aside0.mk (Kd.N_below (by (with_reducible repeat (first|apply Kd.N_alloc|apply Kd.N_drewN|apply Kd.N_drew));exact HNX.out) hb);have n2_:=Aside0.mk (Kd.N_below (by (with_reducible repeat (first|apply Kd.N_alloc|apply Kd.N_drewN|apply Kd.N_drew));exact A2.out) hb);have n3_:=rb Am hb;have n4_:=bb A1 hb;have n5_:=bs1 HB hb Ae;clear A9;clear Ap;clear A2;clear Am;clear A1;clear HB;have A9:=n0_;have Ap:=n1_;have A2:=n2_;have Am:=n3_;have A1:=n4_;have HB:=n5_;clear n0_ n1_ n2_ n3_ n4_ n5_;(try clear hb);(try clear hb2);(try clear hk);(try clear hi)));go_meet
          case rel=>exact ⟨_,(true),(by first|rfl|(simp;done)|(simp [*];done)),H',⟨by have:=HJ15.out;first|omega|exact Nat.le_refl _⟩,⟨by (with_reducible repeat (first|apply Kd.N_alloc|apply Kd.N_drewN|apply Kd.N_drew));exact Kd.N_mono A9.out (fun _ hk=>⟨hk.2.1,hk.2.2.2⟩)⟩,⟨by (with_reducible repeat (first|apply Kd.N_alloc|apply Kd.N_drewN|apply Kd.N_drew));exact Kd.N_mono A2.out (fun _ hk=>⟨hk.1,hk.2.2.2⟩)⟩,⟨dr A1⟩,⟨by exact tb HB⟩,⟨(by (with_reducible repeat (first|apply Kd.S_alloc|apply Kd.S_drewN|apply Kd.S_drew));exact HSX.out)⟩,⟨by (with_reducible repeat (first|apply Kd.N_alloc|apply Kd.N_drewN|apply Kd.N_drew));exact Kd.N_mono HNX.out (fun _ hk=>hk)⟩⟩
       case rest =>
        clear HC47;(try clear c1);(try clear c2);(try clear p2);(try clear c3);(try clear c3b0);(try clear c3b1);(try clear c4);(try clear c5);(try clear c6);(try clear c6b0);(try clear c12);(try clear c15);(try clear c17);(try clear c18);(try clear c20);(try clear c26);(try clear c31);(try clear c32);(try clear c32b0);(try clear c32b1);(try clear c42);(try clear c45);(try clear c46);(try clear c47);(try clear c51);(try clear c51b0);(try clear c53);(try clear c54);(try clear c54b0);(try clear c54b1);(try clear hcz18__);(try clear hcz26__);(try clear hcz8__);(try clear hfz18__);(try clear hfz26__);(try clear hfz8__);(try clear p2);obtain ⟨kq,B1,rfl,HA,HJ46,A9,A2,A1,HB,HSX,HNX⟩:=hcut
        cases kq with
                | zero=>exact absurd HA.out (by simp [laws_FnExactWin.j1])
                | succ kj46 =>
         have H:=HA.out;clear HA;simp only [laws_FnExactWin.j1] at H
         by_cases c64:B1=true
         ·subst c64
          have H1:(some false)=some r:=by rw [if_pos rfl] at H;exact H
          clear H;have H:=H1;clear H1;exact absurd ((Option.some.inj H).trans HT.out) (by decide)
         ·replace c64:=Bool.eq_false_iff.mpr c64;subst c64
          have H1:((laws_markPickS.f kj46 A8 1).bind fun bt131=>((laws_heldPickS.f kj46 bt131.2 1).bind fun An=>(if An < 0 then (some false) else (if An=bt131.1 then ((laws_toBoolS.f kj46 l0).bind fun Av=>((laws_toTable.f a1_0 a1_1).bind fun bt137=>((impl_Win.f kj46 Av bt137.1 bt137.2).bind fun bt139=>((laws_eqPickS.f kj46 bt139.1 A4).bind fun Ar=>(if Ar=true then (if bt139.2.1=A3 then (laws_FnExactWin.j2 kj46 bt131.2 bt131.1 (bt139.2.2 != A7)) else (laws_FnExactWin.j2 kj46 bt131.2 bt131.1 true)) else (laws_FnExactWin.j2 kj46 bt131.2 bt131.1 true)))))) else (some false)))))=some r:=by rw [if_neg (show ¬ (false=true) by decide)] at H;exact H
          clear H;have H:=H1;clear H1;replace H:=ob H;obtain ⟨⟨Ad,Af⟩,A650,H⟩:=H;replace H:((laws_heldPickS.f kj46 Af 1).bind fun An=>(if An < 0 then (some false) else (if An=Ad then ((laws_toBoolS.f kj46 l0).bind fun Av=>((laws_toTable.f a1_0 a1_1).bind fun bt137=>((impl_Win.f kj46 Av bt137.1 bt137.2).bind fun bt139=>((laws_eqPickS.f kj46 bt139.1 A4).bind fun Ar=>(if Ar=true then (if bt139.2.1=A3 then (laws_FnExactWin.j2 kj46 Af Ad (bt139.2.2 != A7)) else (laws_FnExactWin.j2 kj46 Af Ad true)) else (laws_FnExactWin.j2 kj46 Af Ad true)))))) else (some false))))=some r:=H;have A65:=Aside0.mk A650;clear A650;replace H:=ob H;obtain ⟨An,A660,H⟩:=H;replace H:(if An < 0 then (some false) else (if An=Ad then ((laws_toBoolS.f kj46 l0).bind fun Av=>((laws_toTable.f a1_0 a1_1).bind fun bt137=>((impl_Win.f kj46 Av bt137.1 bt137.2).bind fun bt139=>((laws_eqPickS.f kj46 bt139.1 A4).bind fun Ar=>(if Ar=true then (if bt139.2.1=A3 then (laws_FnExactWin.j2 kj46 Af Ad (bt139.2.2 != A7)) else (laws_FnExactWin.j2 kj46 Af Ad true)) else (laws_FnExactWin.j2 kj46 Af Ad true)))))) else (some false)))=some r:=H;have A66:=Aside0.mk A660;clear A660
          by_cases c67:An < 0
          ·rw [if_pos c67] at H;have c67b0:decide (An < 0)=true:=decide_eq_true c67;clear c67;exact absurd ((Option.some.inj H).trans HT.out) (by decide)
          ·rw [if_neg c67] at H;have c67b0:decide (An < 0)=false:=decide_eq_false c67;clear c67
           by_cases c68:An=Ad
           ·rw [if_pos c68] at H;have c68b0:(An == Ad)=true:=beq_iff_eq.mpr c68;have c68b1:(An != Ad)=false:=bne_eq_false_iff_eq.mpr c68;clear c68;replace H:=ob H;obtain ⟨Av,A690,H⟩:=H;replace H:((laws_toTable.f a1_0 a1_1).bind fun bt137=>((impl_Win.f kj46 Av bt137.1 bt137.2).bind fun bt139=>((laws_eqPickS.f kj46 bt139.1 A4).bind fun Ar=>(if Ar=true then (if bt139.2.1=A3 then (laws_FnExactWin.j2 kj46 Af Ad (bt139.2.2 != A7)) else (laws_FnExactWin.j2 kj46 Af Ad true)) else (laws_FnExactWin.j2 kj46 Af Ad true)))))=some r:=H;have A69:=Aside0.mk A690;clear A690;replace H:=ob H;obtain ⟨⟨Be,Bf⟩,A700,H⟩:=H;replace H:((impl_Win.f kj46 Av Be Bf).bind fun bt139=>((laws_eqPickS.f kj46 bt139.1 A4).bind fun Ar=>(if Ar=true then (if bt139.2.1=A3 then (laws_FnExactWin.j2 kj46 Af Ad (bt139.2.2 != A7)) else (laws_FnExactWin.j2 kj46 Af Ad true)) else (laws_FnExactWin.j2 kj46 Af Ad true))))=some r:=H;have A70:=Aside0.mk A700;clear A700;replace H:=ob H;obtain ⟨⟨B6,B2,B9⟩,A710,H⟩:=H;replace H:((laws_eqPickS.f kj46 B6 A4).bind fun Ar=>(if Ar=true then (if B2=A3 then (laws_FnExactWin.j2 kj46 Af Ad (B9 != A7)) else (laws_FnExactWin.j2 kj46 Af Ad true)) else (laws_FnExactWin.j2 kj46 Af Ad true)))=some r:=H;have A71:=Aside0.mk A710;clear A710;have HC72:=Aside0.mk H;clear H;obtain ⟨B3,B4,eo73⟩:=Kd.N_slice A2.out;subst eo73
            try go_wp2_with (first|((with_reducible refine gate_callee (f:=48) rfl ?_);refine goesL_ (some 88) rfl rfl Try.func48 (by kernel_rfl) rfl #[.slice B3 A8.length B4,.int .i64 1] rfl ml ?_;(with_reducible refine (laws_markPickS.calls kj46 (fun k_=>b_≤k_) (.slice B3 A8.length B4) A8 1 Ad Af w _ ?side1 ?side2 A65.out).mono ?_);(case side1=>exact tb HB);(case side2=>exact (by (with_reducible repeat (first|apply Kd.S_alloc|apply Kd.S_drewN|apply Kd.S_drew));exact HSX.out));rintro e w74 ⟨rfl,hy0,hb,hkp⟩;refine ⟨_,rfl,?_⟩;replace A9:=Aside0.mk (Kd.N_mono (ok':=fun k_=>some k_≠(.slice B3 A8.length B4:Value).ownBlock∧k_≠Aa) (Kd.N_kept (by (with_reducible repeat (first|apply Kd.N_alloc|apply Kd.N_drewN|apply Kd.N_drew));exact HNX.out) hkp (fun k_ hk_ hs_=>by have h1:b_≤k_:=hs_;have h2:=hk_.2;omega)) (fun k_ hk_=>⟨fun e_=>by have h1:b_≤k_:=(Kd.S_R hy0).1 k_ e_.symm;have h2:=hk_.2;omega,by exact hk_.1.2⟩));replace A2:=Aside0.mk (Kd.N_mono (ok':=fun k_=>some k_≠(v109:Value).ownBlock∧k_≠Aa) (Kd.S_N hy0) (fun k_ hk_=>⟨fun e_=>by have h1:b_≤k_:=hk_;have h2:=HGX.out.2.2.2 k_ e_.symm;omega,fun e_=>by have h1:b_≤k_:=hk_;have h2:=HGX.out.1;omega⟩));replace A1:=Aside0.mk (blk_kept (dr A1) hkp (fun hs_=>by have h1:b_≤Aa:=hs_;have h2:=HGX.out.1;omega));replace HB:=Aside0.mk (hb);(try clear hb);(try clear hkp);(try clear hy0))|((with_reducible refine gate_callee (f:=49) rfl ?_);refine goesL_ (some 91) rfl rfl Try.func49 (by kernel_rfl) rfl #[.slice B3 Af.length B4,.int .i64 1] rfl (by (try simp only [List.map_toArray,List.map_cons,List.map_nil]);first|done|(rw [show Af.length=A8.length from (Kd.N_reads' A2.out).1.symm] <;> rfl)|rfl|(simp only [List.length_drop,List.length_take];rfl)) ?_;(with_reducible refine (laws_heldPickS.calls kj46 _ _ Af 1 An _ ?side1 ?side2 A66.out).mono ?_);(case side1=>repeat (first|exact (Kd.N_reads' A2.out).2.2|(with_reducible refine Kd.C_alloc ?_ _)|(with_reducible refine Kd.C_drewN ?_ _)|(with_reducible refine Kd.C_drew ?_)));(case side2=>rw [show Af.length=A8.length from (Kd.N_reads' A2.out).1.symm];exact (Kd.N_reads' A2.out).2.1);rintro e w' ⟨rfl,⟨nd,rfl⟩⟩;refine ⟨_,rfl,?_⟩))
            (try (rw [drewN_self w74];generalize hq_:World.drewN w74 _=w74;have n0_:Aside0 (Kd.N k108 108 w74 w.heap.size (fun k_=>some k_≠(v109:Value).ownBlock∧k_≠Aa) (.slice B3 A8.length B4) Af):=⟨by rw [← hq_];exact (by (with_reducible repeat (first|apply Kd.N_alloc|apply Kd.N_drewN|apply Kd.N_drew));exact A2.out)⟩;have n1_:Aside0 (Kd.N k108 108 w74 w.heap.size (fun k_=>some k_≠(.slice B3 A8.length B4:Value).ownBlock∧k_≠Aa) v109 A4):=⟨by rw [← hq_];exact (by (with_reducible repeat (first|apply Kd.N_alloc|apply Kd.N_drewN|apply Kd.N_drew));exact A9.out)⟩;have n2_:Aside0 (w74.heap[Aa]? = some (.cells #[.int .i64 a1_0,.string a1_1] 24 (0,0))):=⟨by rw [← hq_];exact (dr A1)⟩;have n3_:Aside0 (Below w.heap.size w w74):=⟨by rw [← hq_];exact (tb HB)⟩;clear A2 A9 A1 HB hq_;have A2:=n0_;have A9:=n1_;have A1:=n2_;have HB:=n3_;clear n0_ n1_ n2_ n3_))
            replace A9:=Aside0.mk (Kd.N_drew A9.out);replace A2:=Aside0.mk (Kd.N_drew A2.out);replace A1:=Aside0.mk (blk_drew A1.out);replace HB:=Aside0.mk (below_drew1 HB.out);refine start_ (n:=12) (S:=fun w'=>w'.cell? ⟨Aa,0,none⟩=some (.int .i64 a1_0)∧w'.cell? ⟨Aa,1,none⟩=some (.string a1_1)) (ds:=[]) (tf 0 12) (by kernel_rfl) rfl rfl ⟨(blk_cell A1.out 0).trans rfl,(blk_cell A1.out 1).trans rfl⟩ (fun hHeld=>?_);refine with_tabW laws_FnExactWin.tab26 laws_FnExactWin.bits26 (fun HT_ HW_=>?_);generalize w74.drew=w75 at A9 A2 A1 HB hHeld ⊢;refine pure_ (i:=0) (N:=some 98) (v:=?_) (a':=?_) (tf 1 11) rfl rfl (any_of HT_.out (by kernel_rfl)) (fun _ _ _ h=>h) (Or.inl ⟨by rfl,?_⟩) ?_ ?_;rotate_left
            ·intro w';go_simp;with_reducible rfl
            rotate_left
            ·simp only [Act.put,s1,s2,s3,i64_w,i32_w];rfl
            refine take_ (i:=2) (N:=some 100) (v:=?_) (a':=?_) #[true,false,true,false,false,false,false,false,false,false,false,false] rfl rfl (take_ofW HT_.out HW_.out (by kernel_rfl)) (fun _ _ _ h=>h) (Or.inl ⟨by rfl,?_⟩) hHeld ?_ ?_;rotate_left
            ·rintro w' ⟨s0,s1⟩;go_simp;with_reducible rfl
            rotate_left
            ·simp only [Act.put,s1,s2,s3,i64_w,i32_w];rfl
            refine one_ (i:=1) (N:=some 99) (tf 3 9) rfl rfl (one_of HT_.out (by kernel_rfl)) (by decide) (fun K hK=>?_);refine goes_ Try.func17 (by kernel_rfl) rfl #[.slice A0 l0.length c0] (by rfl) rfl rfl ml ?_
            with_reducible refine (laws_toBoolS.calls kj46 _ _ l0 Av _ ?side1 ?side2 A69.out).mono ?_
            (case side1=>exact cw (Kd.C_below HR0.out HB.out))
            (case side2=>exact HC0.out)
            rintro e w76 ⟨v135,rfl,ho0,hb⟩;refine ⟨_,rfl,?_⟩;have n0_:=Aside0.mk (Kd.N_elder' (by (with_reducible repeat (first|apply Kd.N_alloc|apply Kd.N_drewN|apply Kd.N_drew));exact A9.out) (Kd.R_base ho0) hb);have n1_:=Aside0.mk (Kd.N_elder' (by (with_reducible repeat (first|apply Kd.N_alloc|apply Kd.N_drewN|apply Kd.N_drew));exact A2.out) (Kd.R_base ho0) hb);have n2_:=Aside0.mk (Kd.R_lower ho0 (below_size (tb HB)));have n3_:=bb A1 hb;have n4_:=bs1 HB hb Ae;clear A9;clear A2;clear A1;clear HB;have A9:=n0_;have A2:=n1_;have Aj:=n2_;have A1:=n3_;have HB:=n4_;clear n0_ n1_ n2_ n3_ n4_;(try clear hb);(try clear hb2);(try clear hk);(try clear hi);(try clear ho0);refine hK.out _ _ ⟨(blk_cell A1.out 0).trans rfl,(blk_cell A1.out 1).trans rfl⟩ (fun hHeld=>?_);clear hK K;refine norm_ (a':=?_) ?_ ?_;rotate_left
            ·show Act.put _ (some 99) _=_
             simp only [Act.put,s1,s2,s3,i64_w,i32_w];rfl
            refine one_ (i:=3) (N:=some 101) (tf 4 8) rfl rfl (one_of HT_.out (by kernel_rfl)) (by decide) (fun K hK=>?_);refine goes_ Try.func18 (by kernel_rfl) rfl #[.agg #[.int .i64 a1_0,.string a1_1]] (by rfl) rfl rfl ml ?_
            with_reducible refine (laws_toTable.calls a1_0 a1_1 Be Bf _ A70.out).mono ?_
            rintro e w77 ⟨rfl,hb⟩;refine ⟨_,rfl,?_⟩;have n0_:=Aside0.mk (Kd.N_below (by (with_reducible repeat (first|apply Kd.N_alloc|apply Kd.N_drewN|apply Kd.N_drew));exact A9.out) hb);have n1_:=Aside0.mk (Kd.N_below (by (with_reducible repeat (first|apply Kd.N_alloc|apply Kd.N_drewN|apply Kd.N_drew));exact A2.out) hb);have n2_:=rb Aj hb;have n3_:=bb A1 hb;have n4_:=bs1 HB hb Ae;clear A9;clear A2;clear Aj;clear A1;clear HB;have A9:=n0_;have A2:=n1_;have Aj:=n2_;have A1:=n3_;have HB:=n4_;clear n0_ n1_ n2_ n3_ n4_;(try clear hb);(try clear hb2);(try clear hk);(try clear hi);obtain ⟨Bl,Bm,eo78⟩:=Kd.R_slice Aj.out;(first|subst eo78|(injection eo78 with f1_ f2_ f3_;have f4_:=f1_.symm;have f5_:=f3_.symm;clear f1_ f2_ f3_;subst f4_;subst f5_));refine hK.out _ _ ⟨(blk_cell A1.out 0).trans rfl,(blk_cell A1.out 1).trans rfl⟩ (fun hHeld=>?_);clear hK K;refine norm_ (a':=?_) ?_ ?_;rotate_left
            ·show Act.put _ (some 101) _=_
             simp only [Act.put,s1,s2,s3,i64_w,i32_w];rfl
            refine one_ (i:=4) (N:=some 102) (tf 5 7) rfl rfl (one_of HT_.out (by kernel_rfl)) (by decide) (fun K hK=>?_);refine goes_ Try.func46 (by kernel_rfl) rfl #[.slice Bl Av.length Bm,.agg #[.int .i64 Be,.string Bf]] (by rfl) rfl rfl ml ?_
            with_reducible refine (impl_Win.calls kj46 _ _ Av Be Bf B6 B2 B9 _ ?side1 ?side2 A71.out).mono ?_
            (case side1=>exact cw (Kd.R_reads' Aj.out).2.2)
            (case side2=>exact (Kd.R_reads' Aj.out).2.1)
            rintro e w79 ⟨v140,rfl,ho0,hb⟩;refine ⟨_,rfl,?_⟩;have n0_:=Aside0.mk (Kd.N_elder' (by (with_reducible repeat (first|apply Kd.N_alloc|apply Kd.N_drewN|apply Kd.N_drew));exact A9.out) (Kd.N_base (Kd.S_N ho0)) hb);have n1_:=Aside0.mk (Kd.N_elder' (by (with_reducible repeat (first|apply Kd.N_alloc|apply Kd.N_drewN|apply Kd.N_drew));exact A2.out) (Kd.N_base (Kd.S_N ho0)) hb);have n2_:=rb Aj hb;have n3_:=Aside0.mk (Kd.N_lower (Kd.N_mono (ok':=fun k_=>some k_≠(v109:Value).ownBlock∧some k_≠(.slice B3 A8.length B4:Value).ownBlock∧some k_≠(.slice Bl Av.length Bm:Value).ownBlock∧k_≠Aa) (Kd.S_N (Kd.S_bound ho0)) (fun k_ hk_=>⟨(Kd.fresh' (Kd.N_lt (by (with_reducible repeat (first|apply Kd.N_alloc|apply Kd.N_drewN|apply Kd.N_drew));exact A9.out)) k_ hk_.2.1),(Kd.fresh' (Kd.N_lt (by (with_reducible repeat (first|apply Kd.N_alloc|apply Kd.N_drewN|apply Kd.N_drew));exact A2.out)) k_ hk_.2.1),(Kd.fresh' (Kd.R_lt (ra Aj)) k_ hk_.2.1),(Kd.freshB (g:=Aa) (o := .cells #[.int .i64 a1_0,.string a1_1] 24 (0,0)) (dr A1) k_ hk_.2.1)⟩)) (below_size (tb HB)));have n4_:=bb A1 hb;have n5_:=bs1 HB hb Ae;clear A9;clear A2;clear Aj;clear A1;clear HB;have A9:=n0_;have A2:=n1_;have Aj:=n2_;have Al:=n3_;have A1:=n4_;have HB:=n5_;clear n0_ n1_ n2_ n3_ n4_ n5_;(try clear hb);(try clear hb2);(try clear hk);(try clear hi);(try clear ho0);refine hK.out _ _ ⟨(blk_cell A1.out 0).trans rfl,(blk_cell A1.out 1).trans rfl⟩ (fun hHeld=>?_);clear hK K;refine norm_ (a':=?_) ?_ ?_;rotate_left
            ·show Act.put _ (some 102) _=_
             simp only [Act.put,s1,s2,s3,i64_w,i32_w];rfl
            refine pure_ (i:=5) (N:=some 97) (v:=?_) (a':=?_) (tf 6 6) rfl rfl (any_of HT_.out (by kernel_rfl)) (fun _ _ _ h=>h) (Or.inl ⟨by rfl,?_⟩) ?_ ?_;rotate_left
            ·intro w';go_simp;with_reducible rfl
            rotate_left
            ·simp only [Act.put,s1,s2,s3,i64_w,i32_w];rfl
            refine pure_ (i:=6) (N:=some 103) (v:=?_) (a':=?_) (tf 7 5) rfl rfl (any_of HT_.out (by kernel_rfl)) (fun _ _ _ h=>h) (Or.inl ⟨by rfl,?_⟩) ?_ ?_;rotate_left
            ·intro w';go_simp;with_reducible rfl
            rotate_left
            ·simp only [Act.put,s1,s2,s3,i64_w,i32_w];rfl
            refine pure_ (i:=7) (N:=some 104) (v:=?_) (a':=?_) (tf 8 4) rfl rfl (any_of HT_.out (by kernel_rfl)) (fun _ _ _ h=>h) (Or.inl ⟨by rfl,?_⟩) ?_ ?_;rotate_left
            ·intro w';go_simp;with_reducible rfl
            rotate_left
            ·simp only [Act.put,s1,s2,s3,i64_w,i32_w];rfl
            refine pure_ (i:=8) (N:=some 105) (v:=?_) (a':=?_) (tf 9 3) rfl rfl (any_of HT_.out (by kernel_rfl)) (fun _ _ _ h=>h) (Or.inl ⟨by rfl,?_⟩) ?_ ?_;rotate_left
            ·intro w';go_simp;with_reducible rfl
            rotate_left
            ·simp only [Act.put,s1,s2,s3,i64_w,i32_w];rfl
            refine pure_ (i:=9) (N:=some 16) (v:=?_) (a':=?_) (tf 10 2) rfl rfl (any_of HT_.out (by kernel_rfl)) (fun _ _ _ h=>h) (Or.inl ⟨by rfl,?_⟩) ?_ ?_;rotate_left
            ·intro w';go_simp;with_reducible rfl
            rotate_left
            ·simp only [Act.put,s1,s2,s3,i64_w,i32_w];rfl
            refine pure_ (i:=10) (N:=some 17) (v:=?_) (a':=?_) (tf 11 1) rfl rfl (any_of HT_.out (by kernel_rfl)) (fun _ _ _ h=>h) (Or.inl ⟨by rfl,?_⟩) ?_ ?_;rotate_left
            ·intro w';go_simp;with_reducible rfl
            rotate_left
            ·simp only [Act.put,s1,s2,s3,i64_w,i32_w];rfl
            refine pure_ (i:=11) (N:=some 18) (v:=?_) (a':=?_) (tf 12 0) rfl rfl (any_of HT_.out (by kernel_rfl)) (fun _ _ _ h=>h) (Or.inl ⟨by rfl,?_⟩) ?_ ?_;rotate_left
            ·intro w';go_simp;with_reducible rfl
            rotate_left
            ·simp only [Act.put,s1,s2,s3,i64_w,i32_w];rfl
            refine done_ (done_of HT_.out (by kernel_rfl)) ?_
            go_upto_region 27 with (fail)
            go_cut [119] (fun v119 wc=>∃ (kq:Nat) (Ax:Bool),v119 = .bool Ax∧Aside0 (laws_FnExactWin.j2 kq Af Ad Ax=some r)∧Aside0 (kq≤kj46)∧Aside0 (Kd.N k108 108 wc w.heap.size (fun k_=>k_≠Aa) (.slice B3 A8.length B4) Af)∧Aside0 (wc.heap[Aa]? = some (.cells #[.int .i64 a1_0,.string a1_1] 24 (0,0)))∧Aside0 (Below w.heap.size w wc))
            case first =>
             have H:=HC72.out;clear HC72;replace H:=ob H;obtain ⟨Ar,A800,H⟩:=H;replace H:(if Ar=true then (if B2=A3 then (laws_FnExactWin.j2 kj46 Af Ad (B9 != A7)) else (laws_FnExactWin.j2 kj46 Af Ad true)) else (laws_FnExactWin.j2 kj46 Af Ad true))=some r:=H;have A80:=Aside0.mk A800;clear A800
             by_cases c81:Ar=true
             ·subst c81
              have H1:(if B2=A3 then (laws_FnExactWin.j2 kj46 Af Ad (B9 != A7)) else (laws_FnExactWin.j2 kj46 Af Ad true))=some r:=by rw [if_pos rfl] at H;exact H
              clear H;have H:=H1;clear H1
              by_cases c82:B2=A3
              ·rw [if_pos c82] at H;have c82b0:(B2 == A3)=true:=beq_iff_eq.mpr c82;have c82b1:(B2 != A3)=false:=bne_eq_false_iff_eq.mpr c82;clear c82;(first|rw [c82b0]|(simp only [i64_w,i32_w];rw [c82b0])|skip);have H':=Aside0.mk H;clear H;obtain ⟨Ao83,co83,eo83⟩:=Kd.N_slice Al.out;subst eo83;obtain ⟨Ao84,co84,eo84⟩:=Kd.N_slice A9.out;subst eo84;go_wp2_with (first|((with_reducible refine gate_callee (f:=47) rfl ?_);refine goesL_ (some 108) rfl rfl Try.func47 (by kernel_rfl) rfl #[.slice Ao83 B6.length co83,.slice Ao84 A4.length co84] rfl ml ?_;(with_reducible refine (laws_eqPickS.calls kj46 _ _ B6 _ _ A4 true _ ?side1 ?side2 ?side3 ?side4 A80.out).mono ?_);(case side1=>repeat (first|exact (Kd.N_reads' Al.out).2.2|(with_reducible refine Kd.C_alloc ?_ _)|(with_reducible refine Kd.C_drewN ?_ _)|(with_reducible refine Kd.C_drew ?_)));(case side2=>exact (Kd.N_reads' Al.out).2.1);(case side3=>repeat (first|exact (Kd.N_reads' A9.out).2.2|(with_reducible refine Kd.C_alloc ?_ _)|(with_reducible refine Kd.C_drewN ?_ _)|(with_reducible refine Kd.C_drew ?_)));(case side4=>exact (Kd.N_reads' A9.out).2.1);rintro e w85 ⟨rfl,hb⟩;refine ⟨_,rfl,?_⟩;replace A9:=Aside0.mk (Kd.N_below (by (with_reducible repeat (first|apply Kd.N_alloc|apply Kd.N_drewN|apply Kd.N_drew));exact A9.out) hb);replace A2:=Aside0.mk (Kd.N_below (by (with_reducible repeat (first|apply Kd.N_alloc|apply Kd.N_drewN|apply Kd.N_drew));exact A2.out) hb);replace Aj:=rb Aj hb;replace Al:=Aside0.mk (Kd.N_below (by (with_reducible repeat (first|apply Kd.N_alloc|apply Kd.N_drewN|apply Kd.N_drew));exact Al.out) hb);replace A1:=bb A1 hb;replace HB:=bs1 HB hb Ae;(try clear hb);(try clear hb2);(try clear hk);(try clear hi)));go_meet
               case rel=>exact ⟨_,((B9 != A7)),(by first|rfl|(simp;done)|(simp [*];done)),H',⟨by have:=HJ15.out;have:=HJ46.out;first|omega|exact Nat.le_refl _⟩,⟨by (with_reducible repeat (first|apply Kd.N_alloc|apply Kd.N_drewN|apply Kd.N_drew));exact Kd.N_mono A2.out (fun _ hk=>hk.1.1.2)⟩,⟨dr A1⟩,⟨by exact tb HB⟩⟩
              ·rw [if_neg c82] at H;have c82b0:(B2 == A3)=false:=beq_eq_false_iff_ne.mpr c82;have c82b1:(B2 != A3)=true:=bne_iff_ne.mpr c82;(first|rw [c82b0]|(simp only [i64_w,i32_w];rw [c82b0])|skip);have H':=Aside0.mk H;clear H;obtain ⟨Ao86,co86,eo86⟩:=Kd.N_slice Al.out;subst eo86;obtain ⟨Ao87,co87,eo87⟩:=Kd.N_slice A9.out;subst eo87;go_wp2_with (first|((with_reducible refine gate_callee (f:=47) rfl ?_);refine goesL_ (some 108) rfl rfl Try.func47 (by kernel_rfl) rfl #[.slice Ao86 B6.length co86,.slice Ao87 A4.length co87] rfl ml ?_;(with_reducible refine (laws_eqPickS.calls kj46 _ _ B6 _ _ A4 true _ ?side1 ?side2 ?side3 ?side4 A80.out).mono ?_);(case side1=>repeat (first|exact (Kd.N_reads' Al.out).2.2|(with_reducible refine Kd.C_alloc ?_ _)|(with_reducible refine Kd.C_drewN ?_ _)|(with_reducible refine Kd.C_drew ?_)));(case side2=>exact (Kd.N_reads' Al.out).2.1);(case side3=>repeat (first|exact (Kd.N_reads' A9.out).2.2|(with_reducible refine Kd.C_alloc ?_ _)|(with_reducible refine Kd.C_drewN ?_ _)|(with_reducible refine Kd.C_drew ?_)));(case side4=>exact (Kd.N_reads' A9.out).2.1);rintro e w88 ⟨rfl,hb⟩;refine ⟨_,rfl,?_⟩;replace A9:=Aside0.mk (Kd.N_below (by (with_reducible repeat (first|apply Kd.N_alloc|apply Kd.N_drewN|apply Kd.N_drew));exact A9.out) hb);replace A2:=Aside0.mk (Kd.N_below (by (with_reducible repeat (first|apply Kd.N_alloc|apply Kd.N_drewN|apply Kd.N_drew));exact A2.out) hb);replace Aj:=rb Aj hb;replace Al:=Aside0.mk (Kd.N_below (by (with_reducible repeat (first|apply Kd.N_alloc|apply Kd.N_drewN|apply Kd.N_drew));exact Al.out) hb);replace A1:=bb A1 hb;replace HB:=bs1 HB hb Ae;(try clear hb);(try clear hb2);(try clear hk);(try clear hi)));go_meet
               case rel=>exact ⟨_,(true),(by first|rfl|(simp;done)|(simp [*];done)),H',⟨by have:=HJ15.out;have:=HJ46.out;first|omega|exact Nat.le_refl _⟩,⟨by (with_reducible repeat (first|apply Kd.N_alloc|apply Kd.N_drewN|apply Kd.N_drew));exact Kd.N_mono A2.out (fun _ hk=>hk.1.1.2)⟩,⟨dr A1⟩,⟨by exact tb HB⟩⟩
             ·replace c81:=Bool.eq_false_iff.mpr c81;subst c81
              have H1:(laws_FnExactWin.j2 kj46 Af Ad true)=some r:=by rw [if_neg (show ¬ (false=true) by decide)] at H;exact H
              clear H;have H:=H1;clear H1;have H':=Aside0.mk H;clear H;obtain ⟨Ao89,co89,eo89⟩:=Kd.N_slice Al.out;subst eo89;obtain ⟨Ao90,co90,eo90⟩:=Kd.N_slice A9.out;subst eo90;go_wp2_with (first|((with_reducible refine gate_callee (f:=47) rfl ?_);refine goesL_ (some 108) rfl rfl Try.func47 (by kernel_rfl) rfl #[.slice Ao89 B6.length co89,.slice Ao90 A4.length co90] rfl ml ?_;(with_reducible refine (laws_eqPickS.calls kj46 _ _ B6 _ _ A4 false _ ?side1 ?side2 ?side3 ?side4 A80.out).mono ?_);(case side1=>repeat (first|exact (Kd.N_reads' Al.out).2.2|(with_reducible refine Kd.C_alloc ?_ _)|(with_reducible refine Kd.C_drewN ?_ _)|(with_reducible refine Kd.C_drew ?_)));(case side2=>exact (Kd.N_reads' Al.out).2.1);(case side3=>repeat (first|exact (Kd.N_reads' A9.out).2.2|(with_reducible refine Kd.C_alloc ?_ _)|(with_reducible refine Kd.C_drewN ?_ _)|(with_reducible refine Kd.C_drew ?_)));(case side4=>exact (Kd.N_reads' A9.out).2.1);rintro e w91 ⟨rfl,hb⟩;refine ⟨_,rfl,?_⟩;replace A9:=Aside0.mk (Kd.N_below (by (with_reducible repeat (first|apply Kd.N_alloc|apply Kd.N_drewN|apply Kd.N_drew));exact A9.out) hb);replace A2:=Aside0.mk (Kd.N_below (by (with_reducible repeat (first|apply Kd.N_alloc|apply Kd.N_drewN|apply Kd.N_drew));exact A2.out) hb);replace Aj:=rb Aj hb;replace Al:=Aside0.mk (Kd.N_below (by (with_reducible repeat (first|apply Kd.N_alloc|apply Kd.N_drewN|apply Kd.N_drew));exact Al.out) hb);replace A1:=bb A1 hb;replace HB:=bs1 HB hb Ae;(try clear hb);(try clear hb2);(try clear hk);(try clear hi)));go_meet
              case rel=>exact ⟨_,(true),(by first|rfl|(simp;done)|(simp [*];done)),H',⟨by have:=HJ15.out;have:=HJ46.out;first|omega|exact Nat.le_refl _⟩,⟨by (with_reducible repeat (first|apply Kd.N_alloc|apply Kd.N_drewN|apply Kd.N_drew));exact Kd.N_mono A2.out (fun _ hk=>hk.1.1.2)⟩,⟨dr A1⟩,⟨by exact tb HB⟩⟩
            case rest =>
             clear HC72;(try clear c1);(try clear c2);(try clear p2);(try clear c3);(try clear c3b0);(try clear c3b1);(try clear c4);(try clear c5);(try clear c6);(try clear c6b0);(try clear c8);(try clear c12);(try clear c15);(try clear c17);(try clear c18);(try clear c20);(try clear c26);(try clear c31);(try clear c32);(try clear c32b0);(try clear c32b1);(try clear c42);(try clear c45);(try clear c46);(try clear c47);(try clear c48);(try clear c49);(try clear c51);(try clear c51b0);(try clear c53);(try clear c54);(try clear c54b0);(try clear c54b1);(try clear c64);(try clear c67);(try clear c67b0);(try clear c68);(try clear c68b0);(try clear c68b1);(try clear c81);(try clear c82);(try clear c82b0);(try clear c82b1);(try clear hcz18__);(try clear hcz26__);(try clear hcz8__);(try clear hfz18__);(try clear hfz26__);(try clear hfz8__);(try clear p2);obtain ⟨kq,Ax,rfl,HA,HJ71,A2,A1,HB⟩:=hcut;have hl10_71:=(Kd.N_reads' A2.out).1;rw [hl10_71] at A2
             (try simp only [hl10_71])
             (try simp only [hl10_71] at A1)
             cases kq with
                          | zero=>exact absurd HA.out (by simp [laws_FnExactWin.j2])
                          | succ kj71 =>
              have H:=HA.out;clear HA;simp only [laws_FnExactWin.j2] at H
              by_cases c92:Ax=true
              ·subst c92
               have H1:(some false)=some r:=by rw [if_pos rfl] at H;exact H
               clear H;have H:=H1;clear H1;exact absurd ((Option.some.inj H).trans HT.out) (by decide)
              ·replace c92:=Bool.eq_false_iff.mpr c92;subst c92
               have H1:((laws_heldPickS.f kj71 Af 1).bind fun Aq=>(if Aq < 0 then (some false) else (if Aq=Ad then (some true) else (some false))))=some r:=by rw [if_neg (show ¬ (false=true) by decide)] at H;exact H
               clear H;have H:=H1;clear H1;replace H:=ob H;obtain ⟨Aq,A930,H⟩:=H;replace H:(if Aq < 0 then (some false) else (if Aq=Ad then (some true) else (some false)))=some r:=H;have A93:=Aside0.mk A930;clear A930
               by_cases c94:Aq < 0
               ·rw [if_pos c94] at H;have c94b0:decide (Aq < 0)=true:=decide_eq_true c94;clear c94;exact absurd ((Option.some.inj H).trans HT.out) (by decide)
               ·rw [if_neg c94] at H;have c94b0:decide (Aq < 0)=false:=decide_eq_false c94;clear c94
                by_cases c95:Aq=Ad
                ·rw [if_pos c95] at H;have c95b0:(Aq == Ad)=true:=beq_iff_eq.mpr c95;have c95b1:(Aq != Ad)=false:=bne_eq_false_iff_eq.mpr c95;clear c95;obtain rfl:=os H;go_wp2_with (first|((with_reducible refine gate_callee (f:=49) rfl ?_);refine goesL_ (some 122) rfl rfl Try.func49 (by kernel_rfl) rfl #[.slice B3 Af.length B4,.int .i64 1] rfl ml ?_;(with_reducible refine (laws_heldPickS.calls kj71 _ _ Af 1 Aq _ ?side1 ?side2 A93.out).mono ?_);(case side1=>repeat (first|exact (Kd.N_reads' A2.out).2.2|(with_reducible refine Kd.C_alloc ?_ _)|(with_reducible refine Kd.C_drewN ?_ _)|(with_reducible refine Kd.C_drew ?_)));(case side2=>exact (Kd.N_reads' A2.out).2.1);rintro e w' ⟨rfl,⟨nd,rfl⟩⟩;refine ⟨_,rfl,?_⟩));go_ret;exact ⟨er,tb HB⟩
                ·rw [if_neg c95] at H;have c95b0:(Aq == Ad)=false:=beq_eq_false_iff_ne.mpr c95;have c95b1:(Aq != Ad)=true:=bne_iff_ne.mpr c95;exact absurd ((Option.some.inj H).trans HT.out) (by decide)
           ·rw [if_neg c68] at H;have c68b0:(An == Ad)=false:=beq_eq_false_iff_ne.mpr c68;have c68b1:(An != Ad)=true:=bne_iff_ne.mpr c68;exact absurd ((Option.some.inj H).trans HT.out) (by decide)
      ·replace c45:=Bool.eq_false_iff.mpr c45;subst c45
       have H1:(some false)=some r:=by rw [if_neg (show ¬ (false=true) by decide)] at H;exact H
       clear H;have H:=H1;clear H1;exact absurd ((Option.some.inj H).trans HT.out) (by decide)
end Go.Proofs.Ytlpfmhikahlcoaa.G
set_option linter.unusedSimpArgs false
set_option linter.unusedVariables false
namespace Go.Proofs.Ytlpfmhikahlcoaa.Pure
open Go.RowKit Go.Proofs.YtlpfmhikahlcoaaW.PrintWords Go.Proofs.YtlpfmhikahlcoaaW.PrintLast Go.Proofs.YtlpfmhikahlcoaaW.PrintMore
theorem rounds {R:Type} (L:Nat→Nat→Option R) (n:Nat) (r:R) (step:∀ k i,i < n→L (k + 1) i=L k (i + 1)) (stop:∀ k,L (k + 1) n=some r):∀ k,n < k→L k 0=some r:=by
 have h:∀ d i k,i + d=n→d < k→L k i=some r:=by
  intro d
  induction d with
  | zero =>
   intro i k hi hk
   obtain ⟨k,rfl⟩:∃ m,k=m + 1:=⟨k - 1,by omega⟩
   obtain rfl:i=n:=by omega
   exact stop k
  | succ d ih =>
   intro i k hi hk
   obtain ⟨k,rfl⟩:∃ m,k=m + 1:=⟨k - 1,by omega⟩
   rw [step k i (by omega)]
   exact ih (i + 1) k (by omega) (by omega)
 exact fun k hk=>h n 0 k (by omega) hk
theorem rounds_to {R:Type} (L:Nat→Nat→R) (n:Nat) (p:Nat→Bool) (S E:Nat→R) (step:∀ k i,i < n→(∀ j,j < i→p j=true)→p i=true→L (k + 1) i=L k (i + 1))
  (exit:∀ k i,i < n→(∀ j,j < i→p j=true)→p i=false→L (k + 1) i=E k) (stop:∀ k,(∀ j,j < n→p j=true)→L (k + 1) n=S k) :
  ∀ k,n < k→∃ j,k - n - 1≤j∧j < k∧L k 0=if (List.range n).all p then S j else E j:=by
 have h:∀ d i k,i + d=n→d < k→(∀ j,j < i→p j=true)→∃ j,k - d - 1≤j∧j < k∧L k i=if (List.range n).all p then S j else E j:=by
  intro d
  induction d with
  | zero =>
   intro i k hi hk hp
   obtain ⟨k,rfl⟩:∃ m,k=m + 1:=⟨k - 1,by omega⟩
   obtain rfl:i=n:=by omega
   refine ⟨k,by omega,by omega,?_⟩
   rw [stop k hp,if_pos (List.all_eq_true.2 fun x hx=>hp x (by simpa using hx))]
  | succ d ih =>
   intro i k hi hk hp
   obtain ⟨k,rfl⟩:∃ m,k=m + 1:=⟨k - 1,by omega⟩
   cases hpi:p i with
   | true =>
    obtain ⟨j,h1,h2,h3⟩:=ih (i + 1) k (by omega) (by omega) (fun j hj=>by
     rcases Nat.eq_or_lt_of_le (Nat.lt_succ_iff.1 hj) with e|e
     ·exact e ▸ hpi
     ·exact hp j e)
    exact ⟨j,by omega,by omega,(step k i (by omega) hp hpi).trans h3⟩
   | false =>
    refine ⟨k,by omega,by omega,?_⟩
    rw [exit k i (by omega) hp hpi,if_neg (fun ha=>by have:=List.all_eq_true.1 ha i (by simp;omega);rw [hpi] at this;cases this)]
 exact fun k hk=>h n 0 k (by omega) hk (fun j hj=>absurd hj (by omega))
theorem rounds_pre {R:Type} (L:Nat→Nat→Option R) (n:Nat) (p:Nat→Bool) (r bad:R) (step:∀ k i,i < n→(∀ j,j < i→p j=true)→p i=true→L (k + 1) i=L k (i + 1))
  (exit:∀ k i,i < n→(∀ j,j < i→p j=true)→p i=false→L (k + 1) i=some bad) (stop:∀ k,(∀ j,j < n→p j=true)→L (k + 1) n=some r) :
  ∀ k,n < k→L k 0=some (if (List.range n).all p then r else bad):=by
 intro k hk
 obtain ⟨j,_,_,h⟩:=rounds_to L n p (fun _=>some r) (fun _=>some bad) step exit stop k hk
 rw [h]
 split <;> rfl
theorem w64 {n:Int} (h0 : -9223372036854775808≤n) (h1:n≤9223372036854775807):wrap64 n=n:=by
 unfold wrap64
 omega
theorem w64s (i:Nat) (h:i < 4611686018427387904):wrap64 ((i:Int) + 1)=((i + 1:Nat):Int):=by
 rw [w64 (by omega) (by omega)]
 omega
theorem u64_of {a:Int} (h0:0≤a) (h1:a≤18446744073709551615):IntKind.u64.wrap a=a:=by
 have h:IntKind.u64.wrap a=a % 18446744073709551616:=by
  simp [IntKind.wrap,IntKind.bits,IntKind.signed]
 rw [h]
 omega
theorem rd_nat (xs:List Int) (i:Nat):rd xs (i:Int)=xs.getD i 0:=by unfold rd;simp
theorem rdOf_nat {α:Type} (d:α) (xs:List α) (i:Nat):rdOf d xs (i:Int)=xs.getD i d:=by unfold rdOf;simp
theorem getD_lt {α:Type} (xs:List α) (i:Nat) (d:α) (h:i < xs.length):xs.getD i d=xs[i]:=by
 rw [List.getD_eq_getElem?_getD,List.getElem?_eq_getElem h]
 rfl
theorem take_succ_getD {α:Type} (xs:List α) (i:Nat) (d:α) (h:i < xs.length):xs.take (i + 1)=xs.take i ++ [xs.getD i d]:=by
 rw [List.take_succ_eq_append_getElem h,getD_lt xs i d h]
theorem set_front {α:Type} (p l:List α) (i:Nat) (v:α) (hl:p.length=l.length) (h:i < l.length) (hv:p[i]? = some v):(p.take i ++ l.drop i).set i v=p.take (i + 1) ++ l.drop (i + 1):=by
 apply List.ext_getElem?
 intro j
 by_cases hj:j=i
 ·subst hj
  rw [List.getElem?_set_self (by simp;omega),List.getElem?_append_left (by simp;omega),List.getElem?_take_of_lt (by omega),hv]
 ·rw [List.getElem?_set_ne (by omega)]
  rcases Nat.lt_or_ge j i with h1|h1
  ·rw [List.getElem?_append_left (by simp;omega),List.getElem?_append_left (by simp;omega),List.getElem?_take_of_lt (by omega),List.getElem?_take_of_lt (by omega)]
  ·rw [List.getElem?_append_right (by simp;omega),List.getElem?_append_right (by simp;omega)]
   simp only [List.length_take,List.getElem?_drop]
   congr 1
   omega
theorem bt_nat (s:ByteArray) (i:Nat) (h:i < s.size):bt s (i:Int)=(s[i].toNat:Int):=by
 unfold bt
 simp [h]
theorem toList_data (s:ByteArray):s.toList=s.data.toList:=ByteArray.toList_eq s
end Go.Proofs.Ytlpfmhikahlcoaa.Pure
set_option linter.unusedSimpArgs false
set_option linter.unusedVariables false
namespace Go.Proofs.Ytlpfmhikahlcoaa.Pure
open Go.RowKit Go.Proofs.Ytlpfmhikahlcoaa.G Go.Proofs.YtlpfmhikahlcoaaW.PrintWords Go.Proofs.YtlpfmhikahlcoaaW.PrintLast Go.Proofs.YtlpfmhikahlcoaaW.PrintMore
theorem eqBoolS_self (l:List Bool) (hl:l.length≤1099511627776):∀ k,l.length < k→laws_eqBoolS.f k l l=some true:=by
 intro k hk
 unfold laws_eqBoolS.f
 rw [if_pos rfl]
 refine rounds (fun k i=>laws_eqBoolS.l0 k l l (i:Int)) l.length true ?_ ?_ k hk
 ·intro k i hi
  simp only [laws_eqBoolS.l0]
  rw [if_pos (by omega),if_pos (by omega),if_pos (by omega),if_neg (by simp),w64s i (by omega)]
 ·intro k
  simp only [laws_eqBoolS.l0]
  rw [if_neg (by omega)]
theorem eqIntS_self (l:List Int) (hl:l.length≤1099511627776):∀ k,l.length < k→laws_eqIntS.f k l l=some true:=by
 intro k hk
 unfold laws_eqIntS.f
 rw [if_pos rfl]
 refine rounds (fun k i=>laws_eqIntS.l0 k l l (i:Int)) l.length true ?_ ?_ k hk
 ·intro k i hi
  simp only [laws_eqIntS.l0]
  rw [if_pos (by omega),if_pos (by omega),if_pos (by omega),if_pos (by simp),w64s i (by omega)]
 ·intro k
  simp only [laws_eqIntS.l0]
  rw [if_neg (by omega)]
theorem toBoolS_eq (l:List Bool) (hl:l.length≤1099511627776):∀ k,l.length < k→laws_toBoolS.f k l=some l:=by
 intro k hk
 unfold laws_toBoolS.f
 rw [if_pos (by omega),if_pos (by omega),Int.toNat_natCast]
 have h:=rounds (fun k i=>laws_toBoolS.l0 k l (l.take i ++ (List.replicate l.length false).drop i) (i:Int)) l.length l ?_ ?_ k hk
 ·simpa using h
 ·intro k i hi
  simp only [laws_toBoolS.l0]
  rw [if_pos (by omega),if_pos (by omega),if_pos (by simp;omega),rdOf_nat,w64s i (by omega),Int.toNat_natCast,getD_lt l i false hi,set_front l (List.replicate l.length false) i l[i] (by simp) (by simpa using hi) (List.getElem?_eq_getElem hi)]
 ·intro k
  simp only [laws_toBoolS.l0]
  rw [if_neg (by omega)]
  simp
def markB (n:Nat):List Bool:=(List.range n).map fun i=>Int.tmod ((1 + i:Nat):Int) 3 == 0
theorem markBoolS_eq (l:List Bool) (hl:l.length≤1099511627776):∀ k,l.length < k→laws_markBoolS.f k l 1=some (((1 + l.length:Nat):Int),markB l.length):=by
 intro k hk
 unfold laws_markBoolS.f
 have h:=rounds (fun k i=>laws_markBoolS.l0 k ((markB l.length).take i ++ l.drop i) ((1 + i:Nat):Int) (i:Int)) l.length (((1 + l.length:Nat):Int),markB l.length) ?_ ?_ k hk
 ·simpa using h
 ·intro k i hi
  simp only [laws_markBoolS.l0]
  rw [if_pos (by simp [markB];omega),if_pos (by omega),w64s i (by omega),w64s (1 + i) (by omega),Int.toNat_natCast,set_front (markB l.length) l i _ (by simp [markB]) hi (by simp [markB,hi])]
  rfl
 ·intro k
  simp only [laws_markBoolS.l0]
  rw [if_neg (by simp [markB]),List.take_of_length_le (by simp [markB])]
  simp
theorem szTable_eq (N:Int) (s:ByteArray) (hs:s.size≤maxLen):laws_szTable.f N s 1048576=some (if (s.size:Int) > 1048576 then -1 else 1048576 - (s.size:Int)):=by
 unfold laws_szTable.f
 unfold maxLen at hs
 rw [w64 (by omega) (by omega)]
 split <;> split <;> first|rfl|omega
theorem rounds_all {R:Type} (L:Nat→Nat→Option R) (n:Nat) (p:Nat→Bool) (r bad:R) (step:∀ k i,i < n→p i=true→L (k + 1) i=L k (i + 1)) (exit:∀ k i,i < n→p i=false→L (k + 1) i=some bad)
  (stop:∀ k,L (k + 1) n=some r):∀ k,n < k→L k 0=some (if (List.range n).all p then r else bad) :=
 rounds_pre L n p r bad (fun k i hi _ hp=>step k i hi hp) (fun k i hi _ hp=>exit k i hi hp) (fun k _=>stop k)
def sgn (b:Bool):Int:=if b then 49 else 48
def ones (l:List Bool):ByteArray:=⟨(l.map fun b=>if b then (49:UInt8) else 48).toArray⟩
theorem ones_size (l:List Bool):(ones l).size=l.length:=by
 show (l.map fun b=>if b then (49:UInt8) else 48).toArray.size=_
 simp
theorem bt_ones (l:List Bool) (i:Nat) (h:i < l.length):bt (ones l) (i:Int)=sgn (l.getD i false):=by
 have hs:i < (ones l).size:=by rw [ones_size];exact h
 rw [bt_nat _ i hs,getD_lt l i false h]
 have e:(ones l)[i]=if l[i] then (49:UInt8) else 48:=by
  have h1:(ones l).data.toList[i]? = some (ones l)[i]:=by
   rw [List.getElem?_eq_getElem (by simpa using hs)]
   rfl
  have h2:(ones l).data.toList[i]? = some (if l[i] then (49:UInt8) else 48):=by simp [ones,h]
  exact Option.some.inj (h1.symm.trans h2)
 rw [e]
 unfold sgn
 cases l[i] <;> rfl
theorem data_inj {a b:ByteArray} (h:a.data.toList=b.data.toList):a=b:=by
 cases a;cases b
 simp only [ByteArray.mk.injEq]
 exact Array.toList_inj.1 h
theorem toList_inj {a b:ByteArray}:a.toList=b.toList↔a=b:=by
 rw [toList_data,toList_data]
 exact ⟨data_inj,fun h=>h ▸ rfl⟩
def tok (N:Int) (s:ByteArray):Bool:=decide (0≤N∧N≤12∧(s.size:Int)=2 ^ N.toNat) && (List.range s.size).all fun (i:Nat)=>bt s (i:Int) == 48 || bt s (i:Int) == 49
theorem tok_form {N:Int} {s:ByteArray} (h:tok N s=true):∃ (n:Nat) (l:List Bool),N=(n:Int)∧n≤12∧l.length=2 ^ n∧s=ones l:=by
  unfold tok at h
  simp only [Bool.and_eq_true,decide_eq_true_eq] at h
  obtain ⟨⟨h0,h1,h2⟩,h3⟩:=h
  obtain ⟨n,rfl⟩:=Int.eq_ofNat_of_zero_le h0
  have h2':s.size=2 ^ n:=by
    rw [Int.toNat_natCast] at h2
    exact_mod_cast h2
  refine ⟨n,(List.range s.size).map fun (i:Nat)=>decide (bt s (i:Int)=49),rfl,by omega,by simp [h2'],?_⟩
  apply data_inj
  apply List.ext_getElem?
  intro i
  rcases Nat.lt_or_ge i s.size with hi|hi
  · have hb:=List.all_eq_true.1 h3 i (by simpa using hi)
    have e:s.data.toList[i]? = some s[i]:=by
      rw [List.getElem?_eq_getElem (by simpa using hi)]
      rfl
    rw [e]
    have hv:=bt_nat s i hi
    simp only [ones,List.map_map,List.getElem?_map,List.getElem?_range hi,Option.map_some,Function.comp]
    congr 1
    simp only [Bool.or_eq_true,beq_iff_eq] at hb
    have hd : ∀ c : UInt8, ((c.toNat : Int) = 48 → c = 48) ∧ ((c.toNat : Int) = 49 → c = 49) := fun c => ⟨fun h => UInt8.toNat_inj.1 (by have : c.toNat = 48 := by omega
                                                                                                                                         rw [this]; rfl), fun h => UInt8.toNat_inj.1 (by have : c.toNat = 49 := by omega
                                                                                                                                                                                         rw [this];rfl)⟩
    rcases hb with hb|hb
    · have hc:=(hd s[i]).1 (hv ▸ hb)
      simp [hb,hc]
    · have hc:=(hd s[i]).2 (hv ▸ hb)
      simp [hb,hc]
  · rw [List.getElem?_eq_none (by simpa using hi),List.getElem?_eq_none (by simp [ones];exact hi)]
theorem tok_ones {n:Nat} {l:List Bool} (hn:n≤12) (hl:l.length=2 ^ n):tok (n:Int) (ones l)=true:=by
 unfold tok
 rw [Bool.and_eq_true]
 refine ⟨decide_eq_true ⟨by omega,by omega,?_⟩,List.all_eq_true.2 fun i hi=>?_⟩
 ·rw [ones_size,hl,Int.toNat_natCast]
  norm_cast
 ·have hi':i < l.length:=by rw [ones_size] at hi;simpa using hi
  rw [bt_ones l i hi']
  unfold sgn
  cases l.getD i false <;> rfl
theorem pow12 {n:Nat} (hn:n≤12):2 ^ n≤4096:=Nat.pow_le_pow_right (by decide) hn
theorem pow62 {n:Nat} (hn:n≤61):(2:Int) ^ n≤2305843009213693952:=by
 have h:2 ^ n≤2 ^ 61:=Nat.pow_le_pow_right (by decide) hn
 have h2:((2 ^ n:Nat):Int)≤((2 ^ 61:Nat):Int):=by exact_mod_cast h
 have h3:((2 ^ n:Nat):Int)=(2:Int) ^ n:=by norm_cast
 omega
theorem pow_pos_ (n:Nat):(1:Int)≤2 ^ n:=by
 have h:1≤2 ^ n:=Nat.one_le_two_pow
 have h2:((1:Nat):Int)≤((2 ^ n:Nat):Int):=by exact_mod_cast h
 have h3:((2 ^ n:Nat):Int)=(2:Int) ^ n:=by norm_cast
 omega
theorem pow2_eq (n:Nat) (hn:n≤60):∀ k,n < k→spec_l01Pow2.f k (n:Int)=some ((2:Int) ^ n):=by
 intro k hk
 unfold spec_l01Pow2.f
 refine rounds (fun k i=>spec_l01Pow2.l0 k (n:Int) ((2:Int) ^ i) (i:Int)) n _ ?_ ?_ k hk
 ·intro k i hi
  simp only [spec_l01Pow2.l0]
  have h1:=pow62 (n:=i + 1) (by omega)
  have h2:=pow_pos_ i
  rw [if_pos (by omega),w64s i (by omega),show (2:Int) * 2 ^ i=2 ^ (i + 1) from by rw [Int.pow_succ];omega,w64 (by have:=pow_pos_ (i + 1);omega) (by omega)]
 ·intro k
  simp only [spec_l01Pow2.l0]
  rw [if_neg (by omega)]
theorem spec_TableOk_eq (N:Int) (s:ByteArray) (hs:s.size≤1099511627776):∀ k,s.size + 20 < k→spec_TableOk.f k N s=some (tok N s):=by
 intro k hk
 obtain ⟨k,rfl⟩:∃ m,k=m + 1:=⟨k - 1,by omega⟩
 unfold spec_TableOk.f spec_l01In.f
 by_cases h0:N ≥ 0
 ·rw [if_pos h0]
  by_cases h1:N≤12
  ·obtain ⟨n,rfl⟩:=Int.eq_ofNat_of_zero_le h0
   simp only [h1,decide_true,Option.bind_some,if_true]
   rw [pow2_eq n (by omega) (k + 1) (by omega)]
   simp only [Option.bind_some,spec_TableOk.j0]
   by_cases h2:(s.size:Int)=2 ^ n
   ·rw [if_neg (by simp [h2])]
    have h:=rounds_all (fun k i=>spec_TableOk.l0 k (i:Int) (n:Int) s) s.size (fun i=>bt s i == 48 || bt s i == 49) true false ?_ ?_ ?_ k (by omega)
    ·refine h.trans ?_
     unfold tok
     rw [decide_eq_true (⟨h0,h1,by rw [Int.toNat_natCast];exact h2⟩:0≤(n:Int)∧(n:Int)≤12∧(s.size:Int)=2 ^ (n:Int).toNat),Bool.true_and]
     congr 1
     split <;> simp_all
    ·intro k i hi hp
     simp only [spec_TableOk.l0]
     simp only [Bool.or_eq_true,beq_iff_eq] at hp
     rw [if_pos (by omega),if_pos (by omega),w64s i (by omega)]
     rcases hp with hp|hp
     ·rw [if_pos hp]
     ·rw [if_neg (by omega),if_pos hp]
    ·intro k i hi hp
     simp only [spec_TableOk.l0]
     simp only [Bool.or_eq_false_iff,beq_eq_false_iff_ne] at hp
     rw [if_pos (by omega),if_pos (by omega),if_neg hp.1,if_neg hp.2]
    ·intro k
     simp only [spec_TableOk.l0]
     rw [if_neg (by omega)]
   ·rw [if_pos (by simpa using h2)]
    unfold tok
    rw [decide_eq_false (by rintro ⟨_,_,h⟩;rw [Int.toNat_natCast] at h;exact h2 h),Bool.false_and]
  ·simp only [h1,decide_false,Option.bind_some]
   simp only [Bool.false_eq_true,if_false,spec_TableOk.j0,if_true]
   unfold tok
   rw [decide_eq_false (by omega),Bool.false_and]
 ·rw [if_neg h0]
  simp only [Option.bind_some,Bool.false_eq_true,if_false,spec_TableOk.j0,if_true]
  unfold tok
  rw [decide_eq_false (by omega),Bool.false_and]
theorem shl_eq (n:Nat) (hn:n≤60):shl .i64 1 (n:Int)=(2:Int) ^ n:=by
 unfold shl
 rw [Int.toNat_natCast,show min n IntKind.i64.bits=n from by simp [IntKind.bits];omega,Int.one_mul,IntKind.wrap_i64]
 have h1:=pow62 (n:=n) (by omega)
 have h2:=pow_pos_ n
 omega
theorem impl_TableOk_eq (N:Int) (s:ByteArray) (hs:s.size≤1099511627776):∀ k,s.size + 20 < k→impl_TableOk.f k N s=some (tok N s):=by
 intro k hk
 obtain ⟨k,rfl⟩:∃ m,k=m + 1:=⟨k - 1,by omega⟩
 unfold impl_TableOk.f impl_within.f
 by_cases h0:N ≥ 0
 ·rw [if_pos h0]
  by_cases h1:N≤12
  ·obtain ⟨n,rfl⟩:=Int.eq_ofNat_of_zero_le h0
   simp only [h1,decide_true,Option.bind_some,if_true]
   rw [u64_of (by omega) (by omega),if_pos (by omega),shl_eq n (by omega)]
   simp only [impl_TableOk.j0]
   by_cases h2:(s.size:Int)=2 ^ n
   ·rw [if_neg (by simp [h2])]
    have h:=rounds_all (fun k i=>impl_TableOk.l0 k (s.size:Int) (i:Int) (n:Int) s) s.size (fun i=>bt s i == 48 || bt s i == 49) true false ?_ ?_ ?_ k (by omega)
    ·refine h.trans ?_
     unfold tok
     rw [decide_eq_true (⟨h0,h1,by rw [Int.toNat_natCast];exact h2⟩:0≤(n:Int)∧(n:Int)≤12∧(s.size:Int)=2 ^ (n:Int).toNat),Bool.true_and]
     congr 1
     split <;> simp_all
    ·intro k i hi hp
     simp only [impl_TableOk.l0]
     simp only [Bool.or_eq_true,beq_iff_eq] at hp
     rw [if_pos (by omega),if_pos (by omega),if_pos (by omega),w64s i (by omega)]
     rcases hp with hp|hp
     ·rw [if_pos hp]
     ·rw [if_neg (by omega),if_pos hp]
    ·intro k i hi hp
     simp only [impl_TableOk.l0]
     simp only [Bool.or_eq_false_iff,beq_eq_false_iff_ne] at hp
     rw [if_pos (by omega),if_pos (by omega),if_pos (by omega),if_neg hp.1,if_neg hp.2]
    ·intro k
     simp only [impl_TableOk.l0]
     rw [if_neg (by omega)]
   ·rw [if_pos (by simpa using h2)]
    unfold tok
    rw [decide_eq_false (by rintro ⟨_,_,h⟩;rw [Int.toNat_natCast] at h;exact h2 h),Bool.false_and]
  ·simp only [h1,decide_false,Option.bind_some]
   simp only [Bool.false_eq_true,if_false,impl_TableOk.j0,if_true]
   unfold tok
   rw [decide_eq_false (by omega),Bool.false_and]
 ·rw [if_neg h0]
  simp only [Option.bind_some,Bool.false_eq_true,if_false,impl_TableOk.j0,if_true]
  unfold tok
  rw [decide_eq_false (by omega),Bool.false_and]
end Go.Proofs.Ytlpfmhikahlcoaa.Pure
set_option linter.unusedSimpArgs false
set_option linter.unusedVariables false
namespace Go.Proofs.Ytlpfmhikahlcoaa.Pure
open Go.RowKit Go.Proofs.YtlpfmhikahlcoaaW.PrintWords Go.Proofs.YtlpfmhikahlcoaaW.PrintLast Go.Proofs.YtlpfmhikahlcoaaW.PrintMore
theorem ev_some {α:Type} (r:α):Ev (fun _=>some r) r:=⟨0,fun _ _=>rfl⟩
theorem ev_ge {α:Type} {g:Nat→Option α} {r:α} (n:Nat) (h:∀ k,n < k→g k=some r):Ev g r:=⟨n + 1,fun k hk=>h k (by omega)⟩
theorem ev_step {α:Type} {g f:Nat→Option α} {r:α} (h:∀ k,g (k + 1)=f k) (e:Ev f r):Ev g r:=by
 obtain ⟨K,e⟩:=e
 refine ⟨K + 1,fun k hk=>?_⟩
 obtain ⟨m,rfl⟩:∃ m,k=m + 1:=⟨k - 1,by omega⟩
 rw [h m]
 exact e m (by omega)
theorem ev_succ {α:Type} {g:Nat→Option α} {r:α} (e:Ev (fun k=>g (k + 1)) r):Ev g r:=ev_step (fun _=>rfl) e
theorem ev_bind {α β:Type} {g:Nat→Option α} {f:Nat→α→Option β} {a:α} {r:β} (h:Ev g a) (e:Ev (fun n=>f n a) r):Ev (fun n=>(g n).bind (f n)) r:=by
 obtain ⟨K,h⟩:=h
 obtain ⟨M,e⟩:=e
 refine ⟨K + M,fun n hn=>?_⟩
 show (g n).bind (f n)=some r
 rw [h n (by omega)]
 exact e n (by omega)
theorem ev_rounds {α:Type} {g:Nat→Option α} {r:α} (h:Ev g r):∃ k,g k=some r:=by
 obtain ⟨K,h⟩:=h
 exact ⟨K,h K (Nat.le_refl _)⟩
theorem ev_loop {α:Type} (L:Nat→Nat→Option α) (n:Nat) (r:α) (step:∀ i,i < n→Ev (fun k=>L k (i + 1)) r→Ev (fun k=>L k i) r) (stop:Ev (fun k=>L k n) r):∀ i,i≤n→Ev (fun k=>L k i) r:=by
 have h:∀ d i,i + d=n→Ev (fun k=>L k i) r:=by
  intro d
  induction d with
  | zero =>
   intro i hi
   obtain rfl:i=n:=by omega
   exact stop
  | succ d ih=>intro i hi;exact step i (by omega) (ih (i + 1) (by omega))
 exact fun i hi=>h (n - i) i (by omega)
end Go.Proofs.Ytlpfmhikahlcoaa.Pure
set_option linter.unusedSimpArgs false
set_option linter.unusedVariables false
namespace Go.Proofs.Ytlpfmhikahlcoaa.Pure
open Go.RowKit Go.Proofs.Ytlpfmhikahlcoaa.G Go.Proofs.YtlpfmhikahlcoaaW.PrintWords Go.Proofs.YtlpfmhikahlcoaaW.PrintLast Go.Proofs.YtlpfmhikahlcoaaW.PrintMore
def flags (s:ByteArray):List Bool:=s.data.toList.map fun c=>c == 49
theorem flags_ones (l:List Bool):flags (ones l)=l:=by
 unfold flags
 simp only [ones,List.map_map]
 exact (List.map_congr_left (fun b _=>by cases b <;> rfl)).trans (List.map_id l)
theorem range_getD (l:List Bool) (f:Bool→Bool):(List.range l.length).map (fun i=>f (l.getD i false))=l.map f:=by
 apply List.ext_getElem
 ·simp
 ·intro i h1 h2
  simp only [List.getElem_map,List.getElem_range]
  rw [getD_lt l i false (by simpa using h1)]
theorem ones_data (l:List Bool):(ones l).data.toList=l.map fun b=>if b then (49:UInt8) else 48:=by simp [ones]
theorem contains1 (l:List Bool):(ones l).data.toList.contains 49=l.contains true:=by
 rw [ones_data]
 induction l with
 | nil=>rfl
 | cons b l ih =>
  rw [List.map_cons,List.contains_cons,List.contains_cons,ih]
  congr 1
  cases b <;> rfl
theorem contains0 (l:List Bool):(ones l).data.toList.contains 48=l.contains false:=by
 rw [ones_data]
 induction l with
 | nil=>rfl
 | cons b l ih =>
  rw [List.map_cons,List.contains_cons,List.contains_cons,ih]
  congr 1
  cases b <;> rfl
def knownT (N:Int) (s:ByteArray):Int:=if tok N s then (if (flags s).contains true then (if (flags s).contains false then -1 else 1) else 0) else -1
theorem all_cont (t:List Bool) (b:Bool):(t.all fun x=>x == b) = !t.contains (!b):=by
 induction t with
 | nil=>rfl
 | cons x t ih =>
  rw [List.all_cons,ih,List.contains_cons]
  cases x <;> cases b <;> simp
theorem range_all_getD (t:List Bool) (b:Bool):((List.range t.length).all fun i=>t.getD i false == b)=t.all fun x=>x == b:=by
 have h:=congrArg (fun m:List Bool=>m.all id) (range_getD t (fun x=>x == b))
 simpa [List.all_map,Function.comp_def] using h
theorem impl_Table_known_eq (N:Int) (l:List Bool):impl_Table_known.f N (ones l)=some (if l.contains true then (if l.contains false then -1 else 1) else 0):=by
 unfold impl_Table_known.f
 rw [show strings_Contains.f (ones l) ⟨#[49]⟩=some ((ones l).data.toList.contains 49) from rfl,show strings_Contains.f (ones l) ⟨#[48]⟩=some ((ones l).data.toList.contains 48) from rfl,contains1,contains0]
 have hb:∀ b,impl_bit.f b=some (if b then 1 else 0):=fun b=>by cases b <;> rfl
 simp only [Option.bind_some,hb]
 cases l.contains true <;> cases l.contains false <;> rfl
theorem spec_Known_eq (N:Int) (s:ByteArray) (hs:s.size≤1099511627776):∀ k,s.size + 20 < k→spec_Known.f k N s=some (knownT N s):=by
 intro k hk
 unfold spec_Known.f knownT
 rw [spec_TableOk_eq N s hs k hk,Option.bind_some]
 cases ht:tok N s with
 | false=>rfl
 | true =>
  obtain ⟨n,l,rfl,hn,hl,rfl⟩:=tok_form ht
  have hp:=pow12 hn
  have hpos:0 < 2 ^ n:=Nat.two_pow_pos n
  rw [if_pos rfl,if_pos rfl,flags_ones]
  cases l with
  | nil=>simp at hl;omega
  | cons b t =>
   simp only [List.length_cons] at hl
   have h:=rounds_all (fun k i=>spec_Known.l0 k ((i + 1:Nat):Int) (n:Int) (ones (b :: t))) t.length (fun i=>t.getD i false == b) (if b then 1 else 0) (-1) ?_ ?_ ?_ k (by rw [ones_size] at hk;simp at hk;omega)
   ·refine h.trans ?_
    rw [range_all_getD,all_cont]
    cases b <;> cases h1:t.contains true <;> cases h2:t.contains false <;> simp_all
   all_goals simp only [spec_Known.l0]
   ·intro k i hi hpi
    rw [if_pos (by rw [ones_size,List.length_cons];omega),if_pos (by omega),if_pos (by rw [ones_size,List.length_cons];omega),bt_ones _ (i + 1) (by simp;omega),show (0:Int)=((0:Nat):Int) from rfl,bt_ones _ 0 (by simp),if_pos (by simpa using congrArg sgn (beq_iff_eq.1 hpi)),w64s (i + 1) (by omega)]
   ·intro k i hi hpi
    rw [if_pos (by rw [ones_size,List.length_cons];omega),if_pos (by omega),if_pos (by rw [ones_size,List.length_cons];omega),bt_ones _ (i + 1) (by simp;omega),show (0:Int)=((0:Nat):Int) from rfl,bt_ones _ 0 (by simp),if_neg ?_]
    simp only [List.getD_cons_succ,List.getD_cons_zero]
    intro e
    have hx:∀ x y:Bool,sgn x=sgn y→x=y:=by decide
    rw [hx _ _ e] at hpi
    simp at hpi
   ·intro k
    rw [if_neg (by rw [ones_size,List.length_cons];omega),if_pos (by rw [ones_size,List.length_cons];omega),show (0:Int)=((0:Nat):Int) from rfl,bt_ones _ 0 (by simp),List.getD_cons_zero]
    cases b <;> decide +kernel
theorem ones_extract (l:List Bool) (a b:Nat):(ones l).extract a b=ones ((l.take b).drop a):=by
 apply data_inj
 rw [ByteArray.data_extract]
 simp only [ones,Array.toList_extract,List.extract_eq_take_drop,List.map_drop,List.map_take]
 rw [List.drop_take]
def halfL (l:List Bool) (h:Bool):List Bool:=if h then l.drop (l.length / 2) else l.take (l.length / 2)
theorem halfL_len {n:Nat} {l:List Bool} (hl:l.length=2 ^ (n + 1)) (h:Bool):(halfL l h).length=2 ^ n:=by
 rw [Nat.pow_succ] at hl
 cases h <;> simp [halfL] <;> omega
def halfT (N:Int) (s:ByteArray) (h:Int):Int × ByteArray × Bool:=if tok N s && (N != 0) && (h == 0 || h == 1) then (N - 1,ones (halfL (flags s) (h == 1)),true) else (0,⟨#[]⟩,false)
theorem impl_half_eq (n:Nat) (l:List Bool) (hn:n≤11) (hl:l.length=2 ^ (n + 1)) (h:Int):impl_Table_half.f ((n + 1:Nat):Int) (ones l) h=some ((n:Int),ones (halfL l (h != 0))):=by
 have hp:=pow12 (n:=n + 1) (by omega)
 unfold impl_Table_half.f
 rw [ones_size,show ((l.length:Nat):Int) / 2=((l.length / 2:Nat):Int) by omega,w64 (n:=((l.length / 2:Nat):Int)) (by omega) (by omega),w64 (n:=((n + 1:Nat):Int) - 1) (by omega) (by omega),show ((n + 1:Nat):Int) - 1=(n:Int) by omega,Int.toNat_natCast]
 by_cases h0:h=0
 ·rw [if_pos h0,if_pos (by omega),if_pos (by omega),ones_extract,h0]
  rfl
 ·have e:(h != 0)=true:=bne_iff_ne.2 h0
  rw [if_neg h0,if_pos (by omega),if_pos (by omega),ones_extract,List.take_of_length_le (by omega),e]
  rfl
theorem spec_Half_eq (N:Int) (s:ByteArray) (h:Int) (hs:s.size≤1099511627776):∀ k,s.size + 20 < k→spec_Half.f k N s h=some (halfT N s h):=by
 intro k hk
 unfold spec_Half.f halfT
 rw [spec_TableOk_eq N s hs k hk,Option.bind_some]
 cases ht:tok N s with
 | false=>rfl
 | true =>
  obtain ⟨n,l,rfl,hn,hl,rfl⟩:=tok_form ht
  have hp:=pow12 hn
  rw [if_pos rfl]
  by_cases h0:(n:Int)=0
  ·rw [if_pos h0,h0]
   rfl
  ·have e0:((n:Int) != 0)=true:=bne_iff_ne.2 h0
   rw [if_neg h0,e0]
   unfold spec_l01In.f
   by_cases h1:h=0∨h=1
   ·obtain ⟨m,rfl⟩:∃ m,n=m + 1:=⟨n - 1,by omega⟩
    have hl2:l.length=2 * 2 ^ m:=by rw [hl,Nat.pow_succ,Nat.mul_comm]
    have hhalf:l.length / 2=2 ^ m:=by omega
    rw [if_pos (by omega),Option.bind_some,if_pos (by simp;omega),ones_size,show ((l.length:Nat):Int) / 2=((l.length / 2:Nat):Int) by omega,w64 (n:=((l.length / 2:Nat):Int)) (by omega) (by omega),w64 (n:=((m + 1:Nat):Int) - 1) (by omega) (by omega)]
    rcases h1 with h1|h1
    ·subst h1
     rw [Int.zero_mul,w64 (n:=0) (by omega) (by omega),Int.zero_add,w64 (n:=((l.length / 2:Nat):Int)) (by omega) (by omega),if_pos (by omega),if_pos (by omega),if_pos (by omega),Int.toNat_natCast,show (0:Int).toNat=0 from rfl,ones_extract,flags_ones]
     rfl
    ·subst h1
     rw [Int.one_mul,w64 (n:=((l.length / 2:Nat):Int)) (by omega) (by omega),w64 (n:=((l.length / 2:Nat):Int) + ((l.length / 2:Nat):Int)) (by omega) (by omega),if_pos (by omega),if_pos (by omega),if_pos (by omega),Int.toNat_natCast,show (((l.length / 2:Nat):Int) + ((l.length / 2:Nat):Int)).toNat=l.length by omega,ones_extract,flags_ones,List.take_length]
     rfl
   ·have e:(h == 0 || h == 1)=false:=by simp;omega
    rw [e]
    by_cases h2:h ≥ 0
    ·rw [if_pos h2,Option.bind_some,if_neg (by simp;omega)]
     rfl
    ·rw [if_neg h2,Option.bind_some,if_neg (by decide)]
     rfl
def dec:List Bool→List Bool→Bool
 | [],l=>l.getD 0 false
 | a :: r,l=>if a then dec r (halfL l false) && dec r (halfL l true) else dec r (halfL l false) || dec r (halfL l true)
theorem dec_const (b:Bool):∀ (r l:List Bool),l.length=2 ^ r.length→l.contains (!b)=false→dec r l=b:=by
 intro r
 induction r with
 | nil =>
  intro l hl hc
  match l,hl with
  | [x],_=>cases b <;> cases x <;> simp_all [dec]
 | cons a r ih =>
  intro l hl hc
  have hsub:∀ h,(halfL l h).contains (!b)=false:=by
   intro h
   rw [← Bool.not_eq_true,List.contains_iff_mem] at hc ⊢
   intro hm
   apply hc
   cases h
   ·exact List.mem_of_mem_take hm
   ·exact List.mem_of_mem_drop hm
  simp only [dec]
  rw [ih _ (halfL_len (by simpa using hl) false) (hsub false),ih _ (halfL_len (by simpa using hl) true) (hsub true)]
  cases a <;> cases b <;> rfl
def b01 (b:Bool):Int:=if b then 1 else 0
theorem impl_decide_eq:∀ (r l:List Bool),r.length≤12→l.length=2 ^ r.length→∀ k,r.length + 1 < k→impl_decide.f k r (r.length:Int) (ones l)=some (b01 (dec r l)):=by
 intro r
 induction r with
 | nil =>
  intro l _ hl k hk
  obtain ⟨k,rfl⟩:∃ m,k=m + 1:=⟨k - 1,by omega⟩
  simp only [impl_decide.f]
  match l,hl with
  | [x],_ =>
   rw [impl_Table_known_eq,Option.bind_some]
   cases x <;> rfl
 | cons a r ih =>
  intro l hr hl k hk
  obtain ⟨k,rfl⟩:∃ m,k=m + 1:=⟨k - 1,by omega⟩
  simp only [List.length_cons] at hr hl hk
  simp only [impl_decide.f]
  rw [impl_Table_known_eq,Option.bind_some]
  cases h1:l.contains true
  ·rw [show (if false=true then (if l.contains false=true then (-1:Int) else 1) else 0)=0 from rfl,if_pos (by decide),dec_const false (a :: r) l hl (by simpa using h1)]
   rfl
  ·cases h0:l.contains false
   ·rw [show (if true=true then (if false=true then (-1:Int) else 1) else 0)=1 from rfl,if_pos (by decide),dec_const true (a :: r) l hl (by simpa using h0)]
    rfl
   ·rw [show (if true=true then (if true=true then (-1:Int) else 1) else 0) = -1 from rfl,if_neg (by decide),List.length_cons,if_pos (by omega),impl_half_eq r.length l (by omega) hl 0,Option.bind_some,impl_half_eq r.length l (by omega) hl 1]
    simp only [Option.bind_some,List.drop_one,List.tail_cons]
    rw [ih _ (by omega) (halfL_len hl _) k (by omega),ih _ (by omega) (halfL_len hl _) k (by omega)]
    simp only [Option.bind_some]
    rw [if_pos (by omega),show rdOf false (a :: r) 0=a from rfl]
    simp only [dec]
    have e0:((0:Int) != 0)=false:=rfl
    have e1:((1:Int) != 0)=true:=rfl
    rw [e0,e1]
    cases a <;> cases dec r (halfL l false) <;> cases dec r (halfL l true) <;> rfl
theorem spec_decide_eq:∀ (r l:List Bool),r.length≤12→l.length=2 ^ r.length→∀ k,r.length + 4200 < k→spec_l08Decide.f k r (r.length:Int) (ones l)=some (b01 (dec r l)):=by
 intro r
 induction r with
 | nil =>
  intro l _ hl k hk
  obtain ⟨k,rfl⟩:∃ m,k=m + 1:=⟨k - 1,by omega⟩
  simp only [spec_l08Decide.f]
  match l,hl with
  | [x],_ =>
   rw [if_pos (show ((([]:List Bool).length:Nat):Int)=0 from rfl),if_pos (by rw [ones_size];simp),show bt (ones [x]) 0=sgn x from bt_ones [x] 0 (by simp)]
   cases x <;> decide +kernel
 | cons a r ih =>
  intro l hr hl k hk
  obtain ⟨k,rfl⟩:∃ m,k=m + 1:=⟨k - 1,by omega⟩
  simp only [List.length_cons] at hr hl hk
  have hp:=pow12 (n:=r.length + 1) (by omega)
  have ht:tok ((r.length + 1:Nat):Int) (ones l)=true:=tok_ones (by omega) hl
  have h0:(((r.length + 1:Nat):Int) != 0)=true:=by rw [bne_iff_ne];omega
  have hh:∀ h:Int,(h=0∨h=1)→halfT ((r.length + 1:Nat):Int) (ones l) h=((r.length:Int),ones (halfL l (h == 1)),true):=by
   intro h hh
   unfold halfT
   rw [ht,h0,show (h == 0 || h == 1)=true from by simpa using hh,if_pos (by decide),flags_ones,show ((r.length + 1:Nat):Int) - 1=(r.length:Int) by omega]
  simp only [spec_l08Decide.f,List.length_cons]
  rw [if_neg (by omega),spec_Half_eq _ _ 0 (by rw [ones_size];omega) k (by rw [ones_size];omega),spec_Half_eq _ _ 1 (by rw [ones_size];omega) k (by rw [ones_size];omega),hh 0 (.inl rfl),hh 1 (.inr rfl)]
  simp only [Option.bind_some,List.drop_one,List.tail_cons]
  rw [if_pos (by omega),ih _ (by omega) (halfL_len hl _) k (by omega),ih _ (by omega) (halfL_len hl _) k (by omega)]
  simp only [Option.bind_some]
  rw [if_pos (by omega),show rdOf false (a :: r) 0=a from rfl]
  simp only [dec]
  have e0:((0:Int) == 1)=false:=rfl
  have e1:((1:Int) == 1)=true:=rfl
  rw [e0,e1]
  have key:∀ a b c:Bool,(if a=true then some (Go.bits .and .i64 (b01 b) (b01 c)) else some (Go.bits .or .i64 (b01 b) (b01 c)))=some (b01 (if a=true then b && c else b || c)):=by decide +kernel
  exact key a _ _
def decT (r:List Bool) (N:Int) (s:ByteArray):Int × Bool:=if tok N s && ((r.length:Int) == N) then (b01 (dec r (flags s)),true) else (0,false)
theorem impl_Decide_eq (r:List Bool) (N:Int) (s:ByteArray) (hs:s.size≤1099511627776):∀ k,s.size + 40 < k→impl_Decide.f k r N s=some (decT r N s):=by
 intro k hk
 unfold impl_Decide.f impl_rowed.f decT
 rw [impl_TableOk_eq N s hs k (by omega),Option.bind_some]
 cases ht:tok N s with
 | false=>rfl
 | true =>
  obtain ⟨n,l,rfl,hn,hl,rfl⟩:=tok_form ht
  rw [if_pos rfl,Option.bind_some,flags_ones,Bool.true_and]
  by_cases hr:(r.length:Int)=(n:Int)
  ·have hr2:r.length=n:=by omega
   subst hr2
   rw [if_pos (by simp),if_pos (by simp),impl_decide_eq r l hn hl k (by omega)]
   rfl
  ·rw [if_neg (by simpa using hr),if_neg (by simpa using hr)]
theorem spec_Decide_eq (r:List Bool) (N:Int) (s:ByteArray) (hs:s.size≤1099511627776):∀ k,s.size + 4300 < k→spec_Decide.f k r N s=some (decT r N s):=by
 intro k hk
 unfold spec_Decide.f spec_l08Ok.f decT
 rw [spec_TableOk_eq N s hs k (by omega),Option.bind_some]
 cases ht:tok N s with
 | false=>rfl
 | true =>
  obtain ⟨n,l,rfl,hn,hl,rfl⟩:=tok_form ht
  rw [if_pos rfl,Option.bind_some,flags_ones,Bool.true_and]
  by_cases hr:(r.length:Int)=(n:Int)
  ·have hr2:r.length=n:=by omega
   subst hr2
   rw [if_pos (by simp),if_pos (by simp),spec_decide_eq r l hn hl k (by omega)]
   rfl
  ·rw [if_neg (by simpa using hr),if_neg (by simpa using hr)]
def choT (r:List Bool) (N:Int) (s:ByteArray):Int × Bool:=if tok N s && ((r.length:Int) == N) && (N != 0) then (b01 (dec (r.drop 1) (halfL (flags s) false) != dec r (flags s)),true) else (0,false)
theorem spec_Choose_eq (r:List Bool) (N:Int) (s:ByteArray) (hs:s.size≤1099511627776):∀ k,s.size + 4300 < k→spec_Choose.f k r N s=some (choT r N s):=by
 intro k hk
 obtain ⟨k,rfl⟩:∃ m,k=m + 1:=⟨k - 1,by omega⟩
 unfold spec_Choose.f spec_l08Ok.f choT
 rw [spec_TableOk_eq N s hs (k + 1) (by omega),Option.bind_some]
 cases ht:tok N s with
 | false=>simp [spec_Choose.j0]
 | true =>
  obtain ⟨n,l,rfl,hn,hl,rfl⟩:=tok_form ht
  have hp:=pow12 hn
  rw [if_pos rfl,Option.bind_some,flags_ones,Bool.true_and]
  by_cases hr:(r.length:Int)=(n:Int)
  ·rw [show ((r.length:Int) == (n:Int))=true from by simpa using hr,if_pos rfl,Bool.true_and]
   simp only [spec_Choose.j0]
   by_cases h0:(n:Int)=0
   ·rw [if_pos (by simpa using h0),if_neg (by simp [h0])]
   ·rw [if_neg (by simpa using h0),if_pos (by simpa using h0)]
    cases r with
    | nil=>simp at hr;omega
    | cons a r =>
     simp only [List.length_cons] at hr
     have hr2:n=r.length + 1:=by omega
     subst hr2
     have e:=spec_decide_eq (a :: r) l hn hl k (by simp;omega)
     simp only [List.length_cons] at e
     have hh:halfT ((r.length + 1:Nat):Int) (ones l) 0=((r.length:Int),ones (halfL l false),true):=by
      unfold halfT
      rw [ht,show (((r.length + 1:Nat):Int) != 0)=true from by rw [bne_iff_ne];omega,if_pos (by decide),flags_ones,show ((r.length + 1:Nat):Int) - 1=(r.length:Int) by omega]
      rfl
     rw [spec_Half_eq _ _ 0 hs k (by omega),Option.bind_some,hh,List.length_cons,if_pos (by omega),e]
     simp only [List.drop_one,List.tail_cons]
     rw [spec_decide_eq r _ (by omega) (halfL_len hl _) k (by omega)]
     generalize dec r (halfL l false)=p
     generalize dec (a :: r) l=q
     cases p <;> cases q <;> rfl
  ·rw [show ((r.length:Int) == (n:Int))=false from by simpa using hr,if_neg (by decide)]
   simp only [spec_Choose.j0]
   rfl
def owner (v:Int) (l:List Bool):List Bool:=if v=0∨v=1 then l.map (fun a=>a == (v == 0)) else []
theorem impl_Owner_eq (v:Int) (l:List Bool) (hl:l.length≤1048576):∀ k,l.length + 1 < k→impl_Owner.f k l v=some (owner v l):=by
 intro k hk
 obtain ⟨k,rfl⟩:∃ m,k=m + 1:=⟨k - 1,by omega⟩
 have loop:v=0∨v=1→impl_Owner.l0 k v [] l (l.length:Int) 0=some (owner v l):=by
  intro hv
  have h:=rounds (fun k i=>impl_Owner.l0 k v ((l.take i).map (fun a=>a == (v == 0))) l (l.length:Int) (i:Int)) l.length (l.map (fun a=>a == (v == 0))) ?_ ?_ k (by omega)
  ·rw [owner,if_pos hv]
   simpa using h
  ·intro k i hi
   simp only [impl_Owner.l0]
   rw [if_pos (by omega),if_pos (by omega),if_pos (by omega),if_pos (by simp;omega),rdOf_nat,w64s i (by omega),take_succ_getD l i false hi,List.map_append]
   rfl
  ·intro k
   simp only [impl_Owner.l0]
   rw [if_neg (by omega),List.take_length]
 unfold impl_Owner.f
 simp only [Option.bind_some,impl_Owner.j0]
 by_cases h0:v=0
 ·rw [if_pos h0,if_neg (by decide)]
  exact loop (.inl h0)
 ·rw [if_neg h0]
  by_cases h1:v=1
  ·rw [if_neg (by simp [h1])]
   exact loop (.inr h1)
  ·rw [if_pos (by simpa using h1),owner,if_neg (by omega)]
theorem rdP_nat (L:List S108) (i:Nat):rd_T108 L (i:Int)=L.getD i z108:=by unfold rd_T108;simp
def okP (l:List S108):Prop:=l.length≤1048576∧∀ x∈l,x.f0.length≤1048576∧(∀ v∈x.f0,(Lit.int .i64 v).wf=true)∧(Lit.int .i64 x.f1).wf=true
def knC (l:List Bool):Int:=if l.contains true then (if l.contains false then -1 else 1) else 0
theorem knC_one {l:List Bool} (h:l.length=1):0≤knC l:=by
 obtain ⟨a,rfl⟩:=List.length_eq_one_iff.1 h
 cases a <;> decide
theorem spec_Known_c {n:Nat} {l:List Bool} (hn:n≤12) (hl:l.length=2 ^ n):Ev (fun k=>spec_Known.f k (n:Int) (ones l)) (knC l):=by
 have hp:=pow12 hn
 have e:=ev_ge _ (spec_Known_eq (n:Int) (ones l) (by rw [ones_size];omega))
 unfold knownT at e
 rw [tok_ones hn hl,flags_ones,if_pos rfl] at e
 exact e
def winR (v:Int):List Bool→List Bool→List Int→List S108
 | [],_,_=>[]
 | a :: r,l,vals=>if 0≤knC l then [] else if (a == (v == 0))=true then
   ⟨vals,b01 (dec r (halfL l false) != dec (a :: r) l)⟩ :: winR v r (halfL l (dec r (halfL l false) != dec (a :: r) l)) (vals ++ [b01 (dec r (halfL l false) != dec (a :: r) l)])
  else winR v r (halfL l false) (vals ++ [0]) ++ winR v r (halfL l true) (vals ++ [1])
theorem win_small (v:Int):∀ (r l:List Bool) (vals:List Int),r.length + vals.length≤12→(∀ z∈vals,z=0∨z=1)→(winR v r l vals).length < 2 ^ r.length∧∀ x∈winR v r l vals,x.f0.length≤12∧(∀ z∈x.f0,z=0∨z=1)∧(x.f1=0∨x.f1=1):=by
 have bb:∀ b:Bool,b01 b=0∨b01 b=1:=fun b=>by cases b <;> simp [b01]
 intro r
 induction r with
 | nil=>intro l vals _ _;exact ⟨by simp [winR],fun x hx=>by cases hx⟩
 | cons a r ih =>
  intro l vals hr hz
  simp only [List.length_cons] at hr
  have hp:1≤2 ^ r.length:=Nat.one_le_two_pow
  have e2:2 ^ (a :: r).length=2 ^ r.length + 2 ^ r.length:=by rw [List.length_cons,Nat.pow_succ];omega
  have hz2:∀ y:Int,(y=0∨y=1)→∀ z∈vals ++ [y],z=0∨z=1:=fun y hy z h=>by
   rcases List.mem_append.1 h with h|h
   ·exact hz z h
   ·rw [List.mem_singleton.1 h];exact hy
  rw [e2]
  unfold winR
  split
  ·exact ⟨by simp;omega,fun x hx=>by cases hx⟩
  ·split
   ·obtain ⟨h1,h2⟩:=ih (halfL l (dec r (halfL l false) != dec (a :: r) l)) (vals ++ [b01 (dec r (halfL l false) != dec (a :: r) l)]) (by simp;omega) (hz2 _ (bb _))
    refine ⟨by rw [List.length_cons];omega,fun x hx=>?_⟩
    rcases List.mem_cons.1 hx with rfl|hx
    ·exact ⟨by show vals.length≤12;omega,hz,bb _⟩
    ·exact h2 x hx
   ·obtain ⟨h1,h2⟩:=ih (halfL l false) (vals ++ [0]) (by simp;omega) (hz2 0 (Or.inl rfl))
    obtain ⟨h3,h4⟩:=ih (halfL l true) (vals ++ [1]) (by simp;omega) (hz2 1 (Or.inr rfl))
    refine ⟨by rw [List.length_append];omega,fun x hx=>?_⟩
    rcases List.mem_append.1 hx with hx|hx
    ·exact h2 x hx
    ·exact h4 x hx
theorem eqPickS_ev (l:List S108) (hl:okP l):Ev (fun k=>laws_eqPickS.f k l l) true:=by
 unfold laws_eqPickS.f
 simp only [if_true]
 have hlen:=hl.1
 have main:∀ i,i≤l.length→Ev (fun k=>laws_eqPickS.l0 k l l (i:Int)) true:=by
  refine ev_loop (fun k i=>laws_eqPickS.l0 k l l (i:Int)) l.length _ (fun i hi e=>?_) ?_
  ·have hmem:rd_T108 l (i:Int)∈l:=by rw [rdP_nat,getD_lt l i _ hi];exact List.getElem_mem _
   have h1:=(hl.2 _ hmem).1
   refine ev_succ ?_
   simp only [laws_eqPickS.l0,if_pos (show (i:Int) < (l.length:Int) by omega),if_pos (show 0≤(i:Int) by omega),laws_eqPick.f,w64s i (show i < 4611686018427387904 by omega)]
   refine ev_bind (a:=true) ?_ ?_
   ·refine ev_bind (ev_ge _ (eqIntS_self _ (by omega))) ?_
    simp only [if_true]
    exact ev_some _
   ·simp only [if_true]
    exact e
  ·refine ev_succ ?_
   simp only [laws_eqPickS.l0,if_neg (show ¬ (l.length:Int) < (l.length:Int) by omega)]
   exact ev_some _
 exact main 0 (by omega)
end Go.Proofs.Ytlpfmhikahlcoaa.Pure
