-- texts of this session, merged by a program of it (wip/gen/pack.py)
import Derived.Test.YthipjoioicmcnaaKFnExactHoldsFront1
import Derived.Test.YthipjoioicmcnaaKFnExactHoldsFront2
import Derived.Test.YthipjoioicmcnaaKFnExactHoldsFront11
import Derived.Test.YthipjoioicmcnaaKFnExactHoldsFront7
import Derived.Test.YthipjoioicmcnaaKFnExactHoldsFront9
import Derived.Test.YthipjoioicmcnaaKFnExactHoldsFront10
import Derived.Test.YthipjoioicmcnaaKFnExactHoldsFront6
import Derived.Laws.BitsLemmas
import Derived.Test.YthipjoioicmcnaaKFnExactHoldsFront3
namespace Go.Proofs.Ythipjoioicmcnaa.G
open Go.Proofs.Ythipjoioicmcnaa.Sh
open Go.RowKit Go.Proofs.YthipjoioicmcnaaW.PrintWords Go.Proofs.YthipjoioicmcnaaW.PrintLast Go.Proofs.YthipjoioicmcnaaW.PrintMore
attribute [local go_sem] max2_int min2_int max_two min_two max_three min_three max_four min_four
set_option linter.unusedVariables false
set_option linter.unusedSimpArgs false
section
variable {W:World} {go ck b n:Nat} {kn:List Int} {ok:Nat→Prop}
theorem on_get (h:Kd.R (Kd.int .i64) 3 W b ok (.slice (some ⟨go,0,none⟩) n ck) kn) (i:Int) (h0:0≤i) (h1:i < n):W.cell? ⟨go,i.toNat,none⟩=some (.int .i64 (rd kn i))∧W.frozen? ⟨go,i.toNat,none⟩=false:=Kd.R_celln (0:Int) h i h0 h1
theorem on_put (h:Kd.R (Kd.int .i64) 3 W b ok (.slice (some ⟨go,0,none⟩) n ck) kn) (i:Int) (v:Int):Kd.R (Kd.int .i64) 3 (W.setCell ⟨go,i.toNat,none⟩ (.int .i64 v)) b ok (.slice (some ⟨go,0,none⟩) n ck) (kn.set i.toNat v)∧W.grownBy (W.setCell ⟨go,i.toNat,none⟩ (.int .i64 v)) (some go):=Kd.R_putg h i v
end
def onL:Nat→List S99→List Int→List Int→Int→Int→List Int→Option (Int × List Int)
 | 0,_,_,_,_,_,_=>none
 | k + 1,l0,l2,ps,j,wd,zs=>if j < (ps.length:Int) then (if 0≤j∧j < (zs.length:Int) then (if 0≤rd ps j∧rd ps j < (l2.length:Int) then (if j=0 then (if rd ps j < (l0.length:Int) then onL k l0 l2 ps (wrap64 (j + 1)) (rd_T99 l0 (rd ps j)).f1 (zs.set j.toNat (rd l2 (rd ps j))) else none) else onL k l0 l2 ps (wrap64 (j + 1)) wd (zs.set j.toNat (rd l2 (rd ps j)))) else none) else none) else some (wd,zs)
def spec_l04One.f (k:Nat) (l0:List S99) (l1 l2:List Int) (i:Int):Option Int:=if 0≤i∧i < (l0.length:Int) then (if (rd_T99 l0 i).f0=1 then (if 0≤(rd_T99 l0 i).f2∧(rd_T99 l0 i).f2 < (l1.length:Int) then some (rd l1 (rd_T99 l0 i).f2) else none) else (spec_l02Quant.f (rd_T99 l0 i).f0).bind fun t=>if t=true then none else (spec_Parts.f k (rd_T99 l0 i).f0 (rd_T99 l0 i).f1 (rd_T99 l0 i).f2 (rd_T99 l0 i).f3 (rd_T99 l0 i).f4 (rd_T99 l0 i).f5).bind fun ps=>(onL k l0 l2 ps 0 1 [0,0,0]).bind fun q=>spec_Apply.f k (rd_T99 l0 i).f0 (rd_T99 l0 i).f1 (rd_T99 l0 i).f2 (rd_T99 l0 i).f3 (rd_T99 l0 i).f4 (rd_T99 l0 i).f5 q.1 (rd q.2 0) (rd q.2 1) (rd q.2 2)) else none
set_option maxHeartbeats 8000000 in
set_option maxRecDepth 100000 in
theorem spec_l04One.calls (k:Nat) (A0:Option Addr) (c0:Nat) (l0:List (S99)) (A1:Option Addr) (c1:Nat) (l1:List Int) (A2:Option Addr) (c2:Nat) (l2:List Int) (i:Int) (r:Int) (w:World) (hr0:Kd.C k99 w A0 l0.length l0) (hc0:l0.length≤c0) (hr1:Kd.C (Kd.int .i64) w A1 l1.length l1) (hc1:l1.length≤c1) (hr2:Kd.C (Kd.int .i64) w A2 l2.length l2) (hc2:l2.length≤c2) (h:spec_l04One.f k l0 l1 l2 i=some r) :
  Calls Try.prog 118 #[.slice A0 l0.length c0,.slice A1 l1.length c1,.slice A2 l2.length c2,.int .i64 i] w fun e w'=>e = .returned (.int .i64 r)∧Below w.heap.size w w':=by
 have HR0:=Aside0.mk hr0;have HR1:=Aside0.mk hr1;have HR2:=Aside0.mk hr2;clear hr0 hr1 hr2 hc0 hc1 hc2;unfold spec_l04One.f at h
 by_cases c3:0≤i∧i < (l0.length:Int)
 case neg=>rw [if_neg c3] at h;cases h
 rw [if_pos c3] at h;obtain ⟨ad,e_,hx0,hx1,hx2,hx3,hx4,hx5⟩:=at_T99 HR0.out i c3.1 c3.2;cases e_;obtain ⟨c3,c4⟩:=c3;have d3:decide (0≤i)=true:=decide_eq_true c3;have d4:decide (i < (l0.length:Int))=true:=decide_eq_true c4;replace c3:=eq_true c3;replace c4:=eq_true c4;have H:=Aside0.mk h;clear h
 go_enter Try.func118,Try.ntmps118
 go_upto_region 2 with (first|((with_reducible refine gate_dst (N:=9) rfl ?_);refine bx (N:=9) (cs:=#[.int .i64 0,.int .i64 0,.int .i64 0,.int .i64 0,.int .i64 0,.int .i64 0]) (t:=99) ?_;intro gn hg w1 hbox hb;have BN0:=Aside0.mk hbox;have HX0:=Aside0.mk hb;have GN:=Aside0.mk (show w.heap.size≤gn by rw [hg];exact Nat.le_refl _);have hz0:w1.cell? ⟨gn,0,none⟩=some (.int .i64 0):=(blk_cell BN0.out 0).trans rfl;have hfz0:=blk_frozen BN0.out 0;have hz1:w1.cell? ⟨gn,1,none⟩=some (.int .i64 0):=(blk_cell BN0.out 1).trans rfl;have hfz1:=blk_frozen BN0.out 1;have hz2:w1.cell? ⟨gn,2,none⟩=some (.int .i64 0):=(blk_cell BN0.out 2).trans rfl;have hfz2:=blk_frozen BN0.out 2;have hz3:w1.cell? ⟨gn,3,none⟩=some (.int .i64 0):=(blk_cell BN0.out 3).trans rfl;have hfz3:=blk_frozen BN0.out 3;have hz4:w1.cell? ⟨gn,4,none⟩=some (.int .i64 0):=(blk_cell BN0.out 4).trans rfl;have hfz4:=blk_frozen BN0.out 4;have hz5:w1.cell? ⟨gn,5,none⟩=some (.int .i64 0):=(blk_cell BN0.out 5).trans rfl;have hfz5:=blk_frozen BN0.out 5;clear hg hbox hb))
 have HB5:Aside0 (Below w.heap.size w ((((((w1.setCell ⟨gn,0,none⟩ (.int .i64 (rd_T99 l0 i).f0)).setCell ⟨gn,1,none⟩ (.int .i64 (rd_T99 l0 i).f1)).setCell ⟨gn,2,none⟩ (.int .i64 (rd_T99 l0 i).f2)).setCell ⟨gn,3,none⟩ (.int .i64 (rd_T99 l0 i).f3)).setCell ⟨gn,4,none⟩ (.int .i64 (rd_T99 l0 i).f4)).setCell ⟨gn,5,none⟩ (.int .i64 (rd_T99 l0 i).f5))):=⟨below_set (below_set (below_set (below_set (below_set (below_set (HX0.out) GN.out) GN.out) GN.out) GN.out) GN.out) GN.out⟩;have BN5:Aside0 (((((((w1.setCell ⟨gn,0,none⟩ (.int .i64 (rd_T99 l0 i).f0)).setCell ⟨gn,1,none⟩ (.int .i64 (rd_T99 l0 i).f1)).setCell ⟨gn,2,none⟩ (.int .i64 (rd_T99 l0 i).f2)).setCell ⟨gn,3,none⟩ (.int .i64 (rd_T99 l0 i).f3)).setCell ⟨gn,4,none⟩ (.int .i64 (rd_T99 l0 i).f4)).setCell ⟨gn,5,none⟩ (.int .i64 (rd_T99 l0 i).f5)).heap[gn]? = some (.cells #[.int .i64 (rd_T99 l0 i).f0,.int .i64 (rd_T99 l0 i).f1,.int .i64 (rd_T99 l0 i).f2,.int .i64 (rd_T99 l0 i).f3,.int .i64 (rd_T99 l0 i).f4,.int .i64 (rd_T99 l0 i).f5] 99 (0,0))):=⟨blk_put (cs:=#[.int .i64 (rd_T99 l0 i).f0,.int .i64 (rd_T99 l0 i).f1,.int .i64 (rd_T99 l0 i).f2,.int .i64 (rd_T99 l0 i).f3,.int .i64 (rd_T99 l0 i).f4,.int .i64 0]) (blk_put (cs:=#[.int .i64 (rd_T99 l0 i).f0,.int .i64 (rd_T99 l0 i).f1,.int .i64 (rd_T99 l0 i).f2,.int .i64 (rd_T99 l0 i).f3,.int .i64 0,.int .i64 0]) (blk_put (cs:=#[.int .i64 (rd_T99 l0 i).f0,.int .i64 (rd_T99 l0 i).f1,.int .i64 (rd_T99 l0 i).f2,.int .i64 0,.int .i64 0,.int .i64 0]) (blk_put (cs:=#[.int .i64 (rd_T99 l0 i).f0,.int .i64 (rd_T99 l0 i).f1,.int .i64 0,.int .i64 0,.int .i64 0,.int .i64 0]) (blk_put (cs:=#[.int .i64 (rd_T99 l0 i).f0,.int .i64 0,.int .i64 0,.int .i64 0,.int .i64 0,.int .i64 0]) (blk_put (cs:=#[.int .i64 0,.int .i64 0,.int .i64 0,.int .i64 0,.int .i64 0,.int .i64 0]) (BN0.out) 0 (.int .i64 (rd_T99 l0 i).f0) rfl) 1 (.int .i64 (rd_T99 l0 i).f1) rfl) 2 (.int .i64 (rd_T99 l0 i).f2) rfl) 3 (.int .i64 (rd_T99 l0 i).f3) rfl) 4 (.int .i64 (rd_T99 l0 i).f4) rfl) 5 (.int .i64 (rd_T99 l0 i).f5) rfl⟩;clear hz0 hfz0 hz1 hfz1 hz2 hfz2 hz3 hfz3 hz4 hfz4 hz5 hfz5 BN0 HX0 hx0 hx1 hx2 hx3 hx4 hx5;generalize ((((((w1.setCell ⟨gn,0,none⟩ (.int .i64 (rd_T99 l0 i).f0)).setCell ⟨gn,1,none⟩ (.int .i64 (rd_T99 l0 i).f1)).setCell ⟨gn,2,none⟩ (.int .i64 (rd_T99 l0 i).f2)).setCell ⟨gn,3,none⟩ (.int .i64 (rd_T99 l0 i).f3)).setCell ⟨gn,4,none⟩ (.int .i64 (rd_T99 l0 i).f4)).setCell ⟨gn,5,none⟩ (.int .i64 (rd_T99 l0 i).f5))=w5 at BN5 HB5 ⊢;obtain ⟨hcn0,hcn1,hcn2,hcn3,hcn4,hcn5⟩:=c6_ BN5;have h:=H.out;clear H
 by_cases c5:(rd_T99 l0 i).f0=1
 ·rw [if_pos c5] at h;have d5:((rd_T99 l0 i).f0 == 1)=true:=beq_iff_eq.2 c5;clear c5
  by_cases c6:0≤(rd_T99 l0 i).f2∧(rd_T99 l0 i).f2 < (l1.length:Int)
  case neg=>rw [if_neg c6] at h;cases h
  rw [if_pos c6] at h;obtain rfl:=Option.some.inj h;clear h;obtain ⟨ad1,e_,hy⟩:=Kd.at_int HR1.out _ c6.1 c6.2;cases e_;replace hy:=ct HB5 hy;obtain ⟨c6,c7⟩:=c6;have d6:decide (0≤(rd_T99 l0 i).f2)=true:=decide_eq_true c6;have d7:decide ((rd_T99 l0 i).f2 < (l1.length:Int))=true:=decide_eq_true c7;replace c6:=eq_true c6;replace c7:=eq_true c7;go_wp2;go_ret;exact ⟨rfl,HB5.out⟩
 rw [if_neg c5] at h;have d5:((rd_T99 l0 i).f0 == 1)=false:=beq_eq_false_iff_ne.2 c5;clear c5;obtain ⟨t,ht,h⟩:=Option.bind_eq_some_iff.1 h;have HQ:=Aside0.mk ht;clear ht
 cases t with
 | true=>rw [if_pos rfl] at h;cases h
 | false =>
 rw [if_neg (by decide)] at h;obtain ⟨ps,hp,h⟩:=Option.bind_eq_some_iff.1 h;obtain ⟨⟨wd',zs'⟩,hl,h⟩:=Option.bind_eq_some_iff.1 h;have HP:=Aside0.mk hp;have HLL:=Aside0.mk hl;have HAP0:=Aside0.mk h;clear hp hl h;go_wp2_with (first|(go_at_call 103;(try simp only [i64_w,i32_w]);(with_reducible refine (spec_l02Quant.calls (rd_T99 l0 i).f0 false _ HQ.out).mono ?_);rintro e w' ⟨rfl,⟨nd,rfl⟩⟩)|((with_reducible refine gate_dst (N:=66) rfl ?_);refine Kd.R_lit (Kd.int .i64) _ 3 ?hg (N:=66) ?hd (xs:=([0,0,0]:List Int)) (inner:=[.int .i64 0,.int .i64 0,.int .i64 0]) (ok:=fun _=>True) (okp:=fun _=>True) ?hr ?hp (fun _ hk=>hk) trivial (Below.refl _ _) (Nat.le_refl _) (by simp) ?_;(case hd=>rfl);(case hg=>rfl);(case hr=>first|(go_simp;done)|(go_simp;rfl));(case hp=>exact (Reps.one (show Kd.M (Kd.int .i64) _ _ _ 0 [.int .i64 0] from rfl) (Reps.one (show Kd.M (Kd.int .i64) _ _ _ 0 [.int .i64 0] from rfl) (Reps.one (show Kd.M (Kd.int .i64) _ _ _ 0 [.int .i64 0] from rfl) (Reps.none _ _)))));intro v102 w6 ho hb hg_ hnew_;clear hg_ hnew_;have HZ6:=Aside0.mk (Kd.R_lower ho (pw_below_drewN HB5.out _).size);have HB6:=Aside0.mk (below_step (pw_below_drewN HB5.out _) hb);have BN6:=Aside0.mk (blk_below (blk_drewN BN5.out _) hb);clear ho hb;obtain ⟨gz,cz,ez,GZ,GZL,_⟩:=Kd.R_form HZ6.out (by simp);subst ez;have GZ_:=Aside0.mk GZ;have GZL_:=Aside0.mk GZL;clear GZ GZL;clear hcn0 hcn1 hcn2 hcn3 hcn4 hcn5;obtain ⟨hcn0,hcn1,hcn2,hcn3,hcn4,hcn5⟩:=c6_ BN6)|((with_reducible refine gate_callee (f:=99) rfl ?_);(try (refine gate_guard (by rfl) ?_;dsimp only));refine goesL_ (some 68) rfl rfl Try.func99 (by kernel_rfl) rfl #[.agg #[.int .i64 (rd_T99 l0 i).f0,.int .i64 (rd_T99 l0 i).f1,.int .i64 (rd_T99 l0 i).f2,.int .i64 (rd_T99 l0 i).f3,.int .i64 (rd_T99 l0 i).f4,.int .i64 (rd_T99 l0 i).f5]] rfl ml ?_;(with_reducible refine (spec_Parts.calls k (rd_T99 l0 i).f0 (rd_T99 l0 i).f1 (rd_T99 l0 i).f2 (rd_T99 l0 i).f3 (rd_T99 l0 i).f4 (rd_T99 l0 i).f5 ps _ HP.out).mono ?_);rintro e w7 ⟨v_,rfl,ho,hb⟩;refine ⟨_,rfl,?_⟩;have HRp:=Aside0.mk (Kd.R_mono (Kd.R_bound (Kd.R_lower ho (Nat.le_refl _))) (ok':=fun k=>k≠gz) (fun k hk=>by have:=hk.2.1;have:=GZL_.out;omega));have HRq:=Aside0.mk (Kd.R_lower HRp.out HB6.out.size);have HZ7:=Aside0.mk (Kd.R_below HZ6.out hb);have HB7:=Aside0.mk (below_step HB6.out hb);have BN7:=Aside0.mk (blk_below BN6.out hb);clear ho hb;clear hcn0 hcn1 hcn2 hcn3 hcn4 hcn5;obtain ⟨Ap,cp,ep⟩:=Kd.R_slice HRq.out;subst ep))
 have NZ:=Aside0.mk (show gn≠gz from fun e=>by
  obtain ⟨cs,hcs⟩:=Kd.R_typed HZ7.out gz rfl;rw [← e,BN7.out] at hcs
  simp at hcs)
 go_loopg [15,17] k (fun kq v15 v17 wr=>∃ (wd j:Int) (zs:List Int),v15 = .int .i64 wd∧v17 = .int .i64 j∧Aside0 (onL kq l0 l2 ps j wd zs=some (wd',zs'))∧Aside0 (kq≤k)∧Aside0 (zs.length=3)∧Aside0 (wr.heap[gn]? = some (.cells #[.int .i64 (rd_T99 l0 i).f0,.int .i64 (rd_T99 l0 i).f1,.int .i64 (rd_T99 l0 i).f2,.int .i64 (rd_T99 l0 i).f3,.int .i64 (rd_T99 l0 i).f4,.int .i64 (rd_T99 l0 i).f5] 99 (0,0)))∧Aside0 (Kd.R (Kd.int .i64) 3 wr w.heap.size (fun k=>k≠gz) (.slice Ap ps.length cp) ps)∧Aside0 (Kd.R (Kd.int .i64) 3 wr w.heap.size (fun _=>True) (.slice (some ⟨gz,0,none⟩) 3 cz) zs)∧Aside0 (Below w.heap.size w wr))
 case atStart=>exact ⟨1,0,[0,0,0],rfl,rfl,HLL,⟨Nat.le_refl _⟩,⟨rfl⟩,BN7,HRq,⟨HZ7.out⟩,HB7⟩
 case round =>
  clear HLL BN7 HRq HRp HZ7 HB7 d3 d4 c3 c4 d5;obtain ⟨wd,j,zs,rfl,rfl,HA,HK1,HL,BN,HR,HZ,HB⟩:=hrel
  cases gk with
  | zero=>exact absurd HA.out (by simp [onL])
  | succ k1 =>
  have H:=HA.out;clear HA;simp only [onL] at H
  by_cases c3:j < (ps.length:Int)
  ·rw [if_pos c3] at H
   by_cases c4:0≤j∧j < (zs.length:Int)
   case neg=>rw [if_neg c4] at H;cases H
   rw [if_pos c4] at H
   by_cases c6:0≤rd ps j∧rd ps j < (l2.length:Int)
   case neg=>rw [if_neg c6] at H;cases H
   rw [if_pos c6] at H;rw [HL.out] at c4;obtain ⟨c4,c5⟩:=c4;obtain ⟨ap,e_,hp⟩:=Kd.at_int (Kd.R_reads' HR.out).2.2 j c4 c3;cases e_;obtain ⟨ad2,e_,hy⟩:=Kd.at_int HR2.out _ c6.1 c6.2;cases e_;replace hy:=ct HB hy;obtain ⟨hz1,hf1⟩:=on_get HZ.out j c4 c5;have HZs:=Aside0.mk (on_put HZ.out j (rd l2 (rd ps j))).1;have HRs:=Aside0.mk (Kd.R_grown HR.out (on_put HZ.out j (rd l2 (rd ps j))).2 (fun k hk e=>hk (by injection e)));have HBs:=Aside0.mk (below_set (j:=j.toNat) (v := .int .i64 (rd l2 (rd ps j))) HB.out GZ_.out);obtain ⟨ap2,e_,hp2⟩:=Kd.at_int (Kd.R_reads' HRs.out).2.2 j c4 c3
   obtain rfl:ap=ap2:=by injection e_
   clear e_;have d3:decide (j < (ps.length:Int))=true:=decide_eq_true c3;have d4:decide (0≤j)=true:=decide_eq_true c4;have d7:decide (j < 3)=true:=decide_eq_true c5;obtain ⟨c6,c7⟩:=c6;have C6:=Aside0.mk c6;have d6:decide (0≤rd ps j)=true:=decide_eq_true c6;have d8:decide (rd ps j < (l2.length:Int))=true:=decide_eq_true c7;replace c3:=eq_true c3;replace c4:=eq_true c4;replace c5:(j < 3)=True:=eq_true c5;replace c6:=eq_true c6;replace c7:=eq_true c7
   by_cases z0:j=0
   ·rw [if_pos z0] at H;have e0:(j == 0)=true:=beq_iff_eq.2 z0
    by_cases c8:rd ps j < (l0.length:Int)
    case neg=>rw [if_neg c8] at H;cases H
    rw [if_pos c8] at H;obtain ⟨ad3,e_,_,hx1,_⟩:=at_T99 HR0.out (rd ps j) C6.out c8
    obtain rfl:ad=ad3:=by injection e_
    clear e_;replace hx1:=ct HBs hx1;have d9:decide (rd ps j < (l0.length:Int))=true:=decide_eq_true c8;replace c8:=eq_true c8;have H':=Aside0.mk H;clear H z0;go_wp2;go_roundg k1
    case measure=>have:=HK1.out;omega
    case rel=>exact ⟨_,wrap64 (j + 1),_,(by first|rfl|(simp;done)),(by first|rfl|(simp;done)),H',⟨by have:=HK1.out;omega⟩,⟨by rw [List.length_set];exact HL.out⟩,⟨blk_far BN.out NZ.out _⟩,HRs,HZs,HBs⟩
   ·rw [if_neg z0] at H;have e0:(j == 0)=false:=beq_eq_false_iff_ne.2 z0;have H':=Aside0.mk H;clear H z0;go_wp2;go_roundg k1
    case measure=>have:=HK1.out;omega
    case rel=>exact ⟨_,wrap64 (j + 1),_,(by first|rfl|(simp;done)),(by first|rfl|(simp;done)),H',⟨by have:=HK1.out;omega⟩,⟨by rw [List.length_set];exact HL.out⟩,⟨blk_far BN.out NZ.out _⟩,HRs,HZs,HBs⟩
  ·rw [if_neg c3] at H;have d3:decide (j < (ps.length:Int))=false:=decide_eq_false c3;clear c3
   obtain ⟨rfl,rfl⟩:wd=wd'∧zs=zs':=by simpa using H
   have HAP:Aside0 (spec_Apply.f k (rd_T99 l0 i).f0 (rd_T99 l0 i).f1 (rd_T99 l0 i).f2 (rd_T99 l0 i).f3 (rd_T99 l0 i).f4 (rd_T99 l0 i).f5 wd (rd zs 0) (rd zs 1) (rd zs 2)=some r):=⟨HAP0.out⟩;clear H HAP0;go_wp2;have BN8:=Aside0.mk (blk_drew BN.out);have HZ8:=Aside0.mk (Kd.R_drew HZ.out);have HB8:=Aside0.mk (below_drew1 HB.out);refine start_ (n:=13) (S:=fun w'=>w'.cell? ⟨gn,0,none⟩=some (.int .i64 (rd_T99 l0 i).f0)∧w'.cell? ⟨gn,1,none⟩=some (.int .i64 (rd_T99 l0 i).f1)∧w'.cell? ⟨gn,2,none⟩=some (.int .i64 (rd_T99 l0 i).f2)∧w'.cell? ⟨gn,3,none⟩=some (.int .i64 (rd_T99 l0 i).f3)∧w'.cell? ⟨gn,4,none⟩=some (.int .i64 (rd_T99 l0 i).f4)∧w'.cell? ⟨gn,5,none⟩=some (.int .i64 (rd_T99 l0 i).f5)∧w'.cell? ⟨gz,0,none⟩=some (.int .i64 (rd zs 0))∧w'.cell? ⟨gz,1,none⟩=some (.int .i64 (rd zs 1))∧w'.cell? ⟨gz,2,none⟩=some (.int .i64 (rd zs 2))) (ds:=[11]) (tf 0 13) (by kernel_rfl) rfl rfl ⟨(blk_cell BN8.out 0).trans rfl,(blk_cell BN8.out 1).trans rfl,(blk_cell BN8.out 2).trans rfl,(blk_cell BN8.out 3).trans rfl,(blk_cell BN8.out 4).trans rfl,(blk_cell BN8.out 5).trans rfl,(on_get HZ8.out 0 (by decide) (by decide)).1,(on_get HZ8.out 1 (by decide) (by decide)).1,(on_get HZ8.out 2 (by decide) (by decide)).1⟩ (fun hHeld=>?_);generalize wr.drew=w8 at BN8 HZ8 HB8 hHeld ⊢;refine pure_ (i:=1) (N:=some 96) (v:=?_) (a':=?_) #[false,true,false,false,false,false,false,false,false,false,false,false,false] rfl rfl (by kernel_rfl) (fun _ _ _ h=>h) (Or.inl ⟨by rfl,?_⟩) ?_ ?_;rotate_left
   ·intro w';go_simp;with_reducible rfl
   rotate_left
   ·simp only [Act.put,s1,s2,s3,i64_w,i32_w];rfl
   refine pure_ (i:=2) (N:=some 97) (v:=?_) (a':=?_) #[false,true,true,false,false,false,false,false,false,false,false,false,false] rfl rfl (by kernel_rfl) (fun _ _ _ h=>h) (Or.inl ⟨by rfl,?_⟩) ?_ ?_;rotate_left
   ·intro w';go_simp;with_reducible rfl
   rotate_left
   ·simp only [Act.put,s1,s2,s3,i64_w,i32_w];rfl
   refine pure_ (i:=3) (N:=some 98) (v:=?_) (a':=?_) #[false,true,true,true,false,false,false,false,false,false,false,false,false] rfl rfl (by kernel_rfl) (fun _ _ _ h=>h) (Or.inl ⟨by rfl,?_⟩) ?_ ?_;rotate_left
   ·intro w';go_simp;with_reducible rfl
   rotate_left
   ·simp only [Act.put,s1,s2,s3,i64_w,i32_w];rfl
   refine pure_ (i:=5) (N:=some 100) (v:=?_) (a':=?_) #[false,true,true,true,false,true,false,false,false,false,false,false,false] rfl rfl (by kernel_rfl) (fun _ _ _ h=>h) (Or.inl ⟨by rfl,?_⟩) ?_ ?_;rotate_left
   ·intro w';go_simp;with_reducible rfl
   rotate_left
   ·simp only [Act.put,s1,s2,s3,i64_w,i32_w];rfl
   refine pure_ (i:=6) (N:=some 101) (v:=?_) (a':=?_) #[false,true,true,true,false,true,true,false,false,false,false,false,false] rfl rfl (by kernel_rfl) (fun _ _ _ h=>h) (Or.inl ⟨by rfl,?_⟩) ?_ ?_;rotate_left
   ·intro w';go_simp;with_reducible rfl
   rotate_left
   ·simp only [Act.put,s1,s2,s3,i64_w,i32_w];rfl
   refine pure_ (i:=8) (N:=some 103) (v:=?_) (a':=?_) #[false,true,true,true,false,true,true,false,true,false,false,false,false] rfl rfl (by kernel_rfl) (fun _ _ _ h=>h) (Or.inl ⟨by rfl,?_⟩) ?_ ?_;rotate_left
   ·intro w';go_simp;with_reducible rfl
   rotate_left
   ·simp only [Act.put,s1,s2,s3,i64_w,i32_w];rfl
   refine pure_ (i:=9) (N:=some 104) (v:=?_) (a':=?_) #[false,true,true,true,false,true,true,false,true,true,false,false,false] rfl rfl (by kernel_rfl) (fun _ _ _ h=>h) (Or.inl ⟨by rfl,?_⟩) ?_ ?_;rotate_left
   ·intro w';go_simp;with_reducible rfl
   rotate_left
   ·simp only [Act.put,s1,s2,s3,i64_w,i32_w];rfl
   refine take_ (i:=0) (N:=some 95) (v:=?_) (a':=?_) #[true,true,true,true,false,true,true,false,true,true,false,false,false] rfl rfl (by kernel_rfl) (fun _ _ _ h=>h) (Or.inl ⟨by rfl,?_⟩) hHeld ?_ ?_;rotate_left
   ·rintro w' ⟨s0,s1,s2,s3,s4,s5,s6,s7,s8⟩;go_simp;with_reducible rfl
   rotate_left
   ·simp only [Act.put,s1,s2,s3,i64_w,i32_w];rfl
   refine take_ (i:=4) (N:=some 99) (v:=?_) (a':=?_) #[true,true,true,true,true,true,true,false,true,true,false,false,false] rfl rfl (by kernel_rfl) (fun _ _ _ h=>h) (Or.inl ⟨by rfl,?_⟩) hHeld ?_ ?_;rotate_left
   ·rintro w' ⟨s0,s1,s2,s3,s4,s5,s6,s7,s8⟩;go_simp;with_reducible rfl
   rotate_left
   ·simp only [Act.put,s1,s2,s3,i64_w,i32_w];rfl
   refine take_ (i:=7) (N:=some 102) (v:=?_) (a':=?_) (tf 10 3) rfl rfl (by kernel_rfl) (fun _ _ _ h=>h) (Or.inl ⟨by rfl,?_⟩) hHeld ?_ ?_;rotate_left
   ·rintro w' ⟨s0,s1,s2,s3,s4,s5,s6,s7,s8⟩;go_simp;with_reducible rfl
   rotate_left
   ·simp only [Act.put,s1,s2,s3,i64_w,i32_w];rfl
   refine take_ (i:=10) (N:=some 105) (v:=?_) (a':=?_) (tf 11 2) rfl rfl (by kernel_rfl) (fun _ _ _ h=>h) (Or.inl ⟨by rfl,?_⟩) hHeld ?_ ?_;rotate_left
   ·rintro w' ⟨s0,s1,s2,s3,s4,s5,s6,s7,s8⟩;go_simp;with_reducible rfl
   rotate_left
   ·simp only [Act.put,s1,s2,s3,i64_w,i32_w];rfl
   refine last_ (i:=11) (N:=some 106) (tf 12 1) rfl rfl (by kernel_rfl) (by decide) (fun K hK=>?_);refine goes_ Try.func135 (by kernel_rfl) rfl #[.agg #[.int .i64 (rd_T99 l0 i).f0,.int .i64 (rd_T99 l0 i).f1,.int .i64 (rd_T99 l0 i).f2,.int .i64 (rd_T99 l0 i).f3,.int .i64 (rd_T99 l0 i).f4,.int .i64 (rd_T99 l0 i).f5],.int .i64 wd,.int .i64 (rd zs 0),.int .i64 (rd zs 1),.int .i64 (rd zs 2)] (by rfl) rfl rfl (by simp only [List.map_toArray,List.map_cons,List.map_nil];rfl) ?_
   with_reducible refine (spec_Apply.calls k (rd_T99 l0 i).f0 (rd_T99 l0 i).f1 (rd_T99 l0 i).f2 (rd_T99 l0 i).f3 (rd_T99 l0 i).f4 (rd_T99 l0 i).f5 wd (rd zs 0) (rd zs 1) (rd zs 2) r _ HAP.out).mono ?_
   rintro e w9 ⟨rfl,hb⟩;refine ⟨_,rfl,?_⟩;have HB9:=Aside0.mk (below_step HB8.out hb);refine hK.out _ _ ?_;clear hK K;refine norm_ (a':=?_) ?_ ?_;rotate_left
   ·show Act.put _ (some 106) _=_
    simp only [Act.put,s1,s2,s3,i64_w,i32_w];rfl
   refine pure_ (i:=12) (N:=some 8) (v:=?_) (a':=?_) (tf 13 0) rfl rfl (by kernel_rfl) (fun _ _ _ h=>h) (Or.inl ⟨by rfl,?_⟩) ?_ ?_;rotate_left
   ·intro w';go_simp;with_reducible rfl
   rotate_left
   ·simp only [Act.put,s1,s2,s3,i64_w,i32_w];rfl
   refine done_ (by kernel_rfl) ?_;go_wp2;go_ret;exact ⟨rfl,HB9.out⟩
def atF (l0:List S99) (l1:List Int) (a2:Int):Nat→List Int→Int→Option Int
 | 0,_,_=>none
 | k + 1,vals,i=>if i≤a2 then (spec_l04One.f k l0 l1 vals i).bind fun v=>if vals.length < 17592186044416 then atF l0 l1 a2 k (vals ++ [v]) (wrap64 (i + 1)) else none else (if 0≤a2∧a2 < (vals.length:Int) then some (rd vals a2) else none)
def spec_l04At.f (k:Nat) (l0:List S99) (l1:List Int) (a2:Int):Option Int:=atF l0 l1 a2 k [] 0
set_option maxHeartbeats 8000000 in
set_option maxRecDepth 100000 in
theorem spec_l04At.calls (k:Nat) (A0:Option Addr) (c0:Nat) (l0:List (S99)) (A1:Option Addr) (c1:Nat) (l1:List Int) (a2:Int) (r:Int) (w:World) (hr0:Kd.C k99 w A0 l0.length l0) (hc0:l0.length≤c0) (hr1:Kd.C (Kd.int .i64) w A1 l1.length l1) (hc1:l1.length≤c1) (h:spec_l04At.f k l0 l1 a2=some r) :
  Calls Try.prog 83 #[.slice A0 l0.length c0,.slice A1 l1.length c1,.int .i64 a2] w fun e w'=>e = .returned (.int .i64 r)∧Below w.heap.size w w':=by
 have HR0:=Aside0.mk hr0;have HR1:=Aside0.mk hr1;have HC0:=Aside0.mk hc0;have HC1:=Aside0.mk hc1;have HF:Aside0 (atF l0 l1 a2 k [] 0=some r):=⟨h⟩;clear hr0 hr1 hc0 hc1 h
 go_enter Try.func83,Try.ntmps83
 go_wp2_with (first|((with_reducible refine gate_dst (N:=9) rfl ?_);refine Kd.R_lit (Kd.int .i64) _ 3 ?hg (N:=9) ?hd (xs:=([]:List Int)) (inner:=[]) (ok:=fun _=>True) (okp:=fun _=>True) ?hr ?hp (fun _ hk=>hk) trivial (Below.refl _ _) (Nat.le_refl _) (by simp) ?_;(case hd=>rfl);(case hg=>rfl);(case hr=>first|(go_simp;done)|(go_simp;rfl));(case hp=>exact (Reps.none _ _));intro v102 w1 ho hb hg_ hnew_;clear hg_ hnew_;have HO1:=Aside0.mk ho;have HB1:=Aside0.mk hb;clear ho hb))
 go_loopg [7,8] k (fun kq v7 v8 wr=>∃ (i:Int) (vals:List Int),v8 = .int .i64 i∧Aside0 (atF l0 l1 a2 kq vals i=some r)∧Aside0 (kq≤k)∧Aside0 (Kd.R (Kd.int .i64) 3 wr w.heap.size (fun _=>True) v7 vals)∧Aside0 (Below w.heap.size w wr))
 case atStart=>exact ⟨0,[],rfl,HF,⟨Nat.le_refl _⟩,HO1,HB1⟩
 case round =>
  clear HF HO1 HB1;obtain ⟨i,vals,rfl,HA,HK1,HO,HB⟩:=hrel;obtain ⟨Av,cv,ev⟩:=Kd.R_slice HO.out;subst ev
  cases gk with
  | zero=>exact absurd HA.out (by simp [atF])
  | succ k1 =>
  have H:=HA.out;clear HA;simp only [atF] at H
  by_cases c3:i≤a2
  ·rw [if_pos c3] at H;obtain ⟨v,hv,H⟩:=Option.bind_eq_some_iff.1 H
   by_cases c4:vals.length < 17592186044416
   case neg=>rw [if_neg c4] at H;cases H
   rw [if_pos c4] at H;have LM:=Aside0.mk c4;have HV:=Aside0.mk hv;have H':=Aside0.mk H;have d3:decide (i≤a2)=true:=decide_eq_true c3;clear hv H c3 c4;go_wp2_with (first|((with_reducible refine gate_callee (f:=118) rfl ?_);(try (refine gate_guard (by rfl) ?_;dsimp only));refine goesL_ (some 20) rfl rfl Try.func118 (by kernel_rfl) rfl #[.slice A0 l0.length c0,.slice A1 l1.length c1,.slice Av vals.length cv,.int .i64 i] rfl ml ?_;(with_reducible refine (spec_l04One.calls k1 A0 c0 l0 A1 c1 l1 Av cv vals i v _ (Kd.C_below HR0.out HB.out) HC0.out (Kd.C_below HR1.out HB.out) HC1.out (Kd.R_reads' HO.out).2.2 (Kd.R_reads' HO.out).2.1 HV.out).mono ?_);rintro e w5 ⟨rfl,hb⟩;refine ⟨_,rfl,?_⟩;have HO5:=Aside0.mk (Kd.R_below HO.out hb);have HB5:=Aside0.mk (below_step HB.out hb);clear hb)|((with_reducible refine gate_builtin (b := .append) (xs:=#[.tmp 15,.tmp 21]) rfl ?_);at_builtin;refine Kd.R_append (Kd.int .i64) (w0:=w) w.heap.size rfl (.tmp 15) (.tmp 21) 31 3 (.int .i64 0) 8 rfl Try.underlying31 info3 rfl (by decide) (by omega) (.slice Av vals.length cv) vals v [.int .i64 v] (fun _=>True) (fun _=>False) rfl rfl ?aP (fun _ hk=>hk.elim) ?aF ?aO ?aB ?aS ?aL ?_;(case aP=>exact rfl);(case aB=>exact (by repeat (first|(with_reducible first|exact HB5.out|apply below_alloc|apply pw_below_drewN|apply below_drew1)|exact HB5.out)));(case aF=>exact (fun _ _=>trivial));(case aO=>exact (ra HO5));(case aS=>exact (below_size (by repeat (first|(with_reducible first|exact HB5.out|apply below_alloc|apply pw_below_drewN|apply below_drew1)|exact HB5.out))));(case aL=>have:=LM.out;omega);intro v105 w6 ho hb hg hat;have HB6:=Aside0.mk hb;have HO6:=Aside0.mk ho;clear ho hb hg hat));go_roundg k1
   case measure=>have:=HK1.out;omega
   case rel=>exact ⟨wrap64 (i + 1),vals ++ [v],(by first|rfl|(simp;done)),H',⟨by have:=HK1.out;omega⟩,HO6,HB6⟩
  ·rw [if_neg c3] at H;have d3:decide (i≤a2)=false:=decide_eq_false c3;clear c3
   by_cases c6:0≤a2∧a2 < (vals.length:Int)
   case neg=>rw [if_neg c6] at H;cases H
   rw [if_pos c6] at H;obtain rfl:=os H;obtain ⟨ad1,e_,hy⟩:=Kd.at_int (Kd.R_reads' HO.out).2.2 _ c6.1 c6.2;cases e_;obtain ⟨c6,c7⟩:=c6;have d6:decide (0≤a2)=true:=decide_eq_true c6;have d7:decide (a2 < (vals.length:Int))=true:=decide_eq_true c7;replace c6:=eq_true c6;replace c7:=eq_true c7;clear H;go_wp2;go_ret;exact ⟨rfl,HB.out⟩
mutual
def spec_l05Holds.l0:Nat→List (S66)→List (S99)→List Int→Int→Int→Int→Int→Option (Int × List Int)
 | 0,_,_,_,_,_,_,_=>none
 | k + 1,x0,x1,x2,x3,x9,x10,x11=>if 0≤x3 then (if x3 < (x0.length:Int) then ((spec_l01Pow2.f k ((rd_T66 x0 x3).f2)).bind fun A7=>(if x11 < A7 then (if 0≤((rd_T66 x0 x3).f1) then (if ((rd_T66 x0 x3).f1) < (x2.length:Int) then ((spec_l05Holds.f k x0 x1 (x2.set (((rd_T66 x0 x3).f1):Int).toNat x11) (wrap64 (x3 + 1))).bind fun bt106=>(if bt106.1=1 then (spec_l05Holds.l0 k x0 x1 bt106.2 x3 x9 1 (wrap64 (x11 + 1))) else (spec_l05Holds.l0 k x0 x1 bt106.2 x3 0 x10 (wrap64 (x11 + 1))))) else (none)) else (none)) else (if (rd_T66 x0 x3).f0=true then (some (x9,x2)) else (some (x10,x2))))) else (none)) else (none)
def spec_l05Holds.f:Nat→List (S66)→List (S99)→List Int→Int→Option (Int × List Int)
 | 0,_,_,_,_=>none
 | k + 1,l0,l1,l2,a3=>if a3=(l0.length:Int) then ((spec_l04At.f k l1 l2 (wrap64 ((l1.length:Int) - 1))).bind fun Ab=>(some (Ab,l2))) else (spec_l05Holds.l0 k l0 l1 l2 a3 1 0 0)
end
set_option maxHeartbeats 8000000 in
set_option maxRecDepth 100000 in
theorem spec_l05Holds.calls (k:Nat):∀ (A0:Option Addr) (c0:Nat) (l0:List (S66)) (A1:Option Addr) (c1:Nat) (l1:List (S99)) (P2_:Nat→Prop) (u9000_:Value) (l2:List Int) (a3:Int) (r1:Int) (r2:List Int) (w0 w:World) (hB:Below w0.heap.size w0 w) (hr0:∀ W_,Kept w W_ (fun k_=>P2_ k_)→Kd.C k66 W_ A0 l0.length l0) (hc0:l0.length≤c0) (hr1:∀ W_,Kept w W_ (fun k_=>P2_ k_)→Kd.C k99 W_ A1 l1.length l1) (hc1:l1.length≤c1) (ho2:Kd.R (Kd.int .i64) 3 w w0.heap.size P2_ u9000_ l2) (h:spec_l05Holds.f k l0 l1 l2 a3=some (r1,r2)),
  Calls Try.prog 93 #[.slice A0 l0.length c0,.slice A1 l1.length c1,u9000_,.int .i64 a3] w fun e w'=>e = .returned (.int .i64 r1)∧Kd.R (Kd.int .i64) 3 w' w0.heap.size (fun k_=>(P2_ k_∨w.heap.size≤k_)) u9000_ r2∧Below w0.heap.size w0 w'∧Kept w w' (fun k_=>P2_ k_):=by
 induction k using Nat.strongRecOn with
 | _ k ih =>
 intro A0 c0 l0 A1 c1 l1 P2_ u9000_ l2 a3 r1 r2 w0 w hB hr0 hc0 hr1 hc1 ho2 h
 cases k with
 | zero=>exact absurd h (by simp [spec_l05Holds.f])
 | succ k =>
 simp only [spec_l05Holds.f] at h;have HR0:=Aside0.mk hr0;have HC0:=Aside0.mk hc0;clear hr0 hc0;have HR1:=Aside0.mk hr1;have HC1:=Aside0.mk hc1;clear hr1 hc1;have Ae:=Aside0.mk (show Kd.R (Kd.int .i64) 3 w w0.heap.size (fun k_=>(P2_ k_∨w.heap.size≤k_)) u9000_ l2 from Kd.R_mono ho2 (fun k_ hk=>(.inl hk)));have HK:=Aside0.mk (Kept.refl w (fun k_=>P2_ k_));have HW0:=Aside0.mk hB.size;have HB:=Aside0.mk hB;clear hB;have H:(if a3=(l0.length:Int) then ((spec_l04At.f k l1 l2 (wrap64 ((l1.length:Int) - 1))).bind fun Ab=>(some (Ab,l2))) else (spec_l05Holds.l0 k l0 l1 l2 a3 1 0 0))=some (r1,r2):=h;clear h
 by_cases c5:a3=(l0.length:Int)
 ·rw [if_pos c5] at H;have c5b0:(a3 == (l0.length:Int))=true:=beq_iff_eq.mpr c5;have c5b1:(a3 != (l0.length:Int))=false:=bne_eq_false_iff_eq.mpr c5;clear c5;replace H:=ob H;obtain ⟨Ab,A60,H⟩:=H;replace H:(some (Ab,l2))=some (r1,r2):=H;have A6:=Aside0.mk A60;clear A60;simp only [Option.some.injEq,Prod.mk.injEq] at H;obtain ⟨rfl,rfl⟩:=H;obtain ⟨Ao7,co7,eo7⟩:=Kd.R_slice Ae.out;subst eo7
  go_enter Try.func93,Try.ntmps93
  go_wp2_with (first|((with_reducible refine gate_callee (f:=83) rfl ?_);refine goesL_ (some 21) rfl rfl Try.func83 (by kernel_rfl) rfl #[.slice A1 l1.length c1,.slice Ao7 l2.length co7,.int .i64 (wrap64 ((l1.length:Int) - 1))] rfl ml ?_;(with_reducible refine (spec_l04At.calls k _ _ l1 _ _ l2 (wrap64 ((l1.length:Int) - 1)) Ab _ ?side1 ?side2 ?side3 ?side4 A6.out).mono ?_);(case side1=>exact Kd.C_kept_now HR1.out (tk HK));(case side2=>exact HC1.out);(case side3=>exact cw (Kd.R_reads' Ae.out).2.2);(case side4=>exact (Kd.R_reads' Ae.out).2.1);rintro e w8 ⟨rfl,hb⟩;refine ⟨_,rfl,?_⟩;replace Ae:=Aside0.mk (Kd.R_below (ra Ae) hb);replace HK:=Aside0.mk (Kept.below (S:=(fun k_=>P2_ k_)) (tk HK) hb);replace HB:=Aside0.mk (below_step (tb HB) hb);(try clear hb);(try clear hb2);(try clear hk);(try clear hi)));go_ret;exact ⟨er,ra Ae,tb HB,tk HK⟩
 ·rw [if_neg c5] at H;have c5b0:(a3 == (l0.length:Int))=false:=beq_eq_false_iff_ne.mpr c5;have c5b1:(a3 != (l0.length:Int))=true:=bne_iff_ne.mpr c5;have H':=Aside0.mk H;clear H
  go_enter Try.func93,Try.ntmps93
  go_wp2
  go_loopg [9,10,11] k (fun kq v9 v10 v11 w'=>∃ (A4:List Int) (A8:Int) (A5:Int) (A3:Int),v9 = .int .i64 A8∧v10 = .int .i64 A5∧v11 = .int .i64 A3∧Aside0 (spec_l05Holds.l0 kq l0 l1 A4 a3 A8 A5 A3=some (r1,r2))∧Aside0 (kq≤k)∧Aside0 (Kd.R (Kd.int .i64) 3 w' w0.heap.size (fun k_=>(P2_ k_∨w.heap.size≤k_)) u9000_ A4)∧Aside0 (Kept w w' (fun k_=>P2_ k_))∧Aside0 (Below w0.heap.size w0 w'))
  case atStart=>exact ⟨(l2),(1),(0),(0),(by first|rfl|(simp;done)|(simp [*];done)),(by first|rfl|(simp;done)|(simp [*];done)),(by first|rfl|(simp;done)|(simp [*];done)),H',⟨Nat.le_refl _⟩,⟨ra Ae⟩,⟨by exact tk HK⟩,⟨by exact tb HB⟩⟩
  case round =>
   clear H';(try clear c1);(try clear p2);(try clear c5);(try clear c5b0);(try clear c5b1);(try clear p6);(try clear c8);obtain ⟨A4,A8,A5,A3,rfl,rfl,rfl,HA,HK1,A2,HK,HB⟩:=hrel
   cases gk with
   | zero=>exact absurd HA.out (by simp [spec_l05Holds.l0])
   | succ k1 =>
    have H:=HA.out;clear HA;simp only [spec_l05Holds.l0] at H
    by_cases c9:0≤a3
    ·rw [if_pos c9] at H;have c9b0:decide (0≤a3)=true:=decide_eq_true c9;clear c9
     by_cases c10:a3 < (l0.length:Int)
     ·rw [if_pos c10] at H;have c10b0:decide (a3 < (l0.length:Int))=true:=decide_eq_true c10;clear c10;replace H:=ob H;obtain ⟨A7,A110,H⟩:=H;replace H:(if A3 < A7 then (if 0≤((rd_T66 l0 a3).f1) then (if ((rd_T66 l0 a3).f1) < (A4.length:Int) then ((spec_l05Holds.f k1 l0 l1 (A4.set (((rd_T66 l0 a3).f1):Int).toNat A3) (wrap64 (a3 + 1))).bind fun bt106=>(if bt106.1=1 then (spec_l05Holds.l0 k1 l0 l1 bt106.2 a3 A8 1 (wrap64 (A3 + 1))) else (spec_l05Holds.l0 k1 l0 l1 bt106.2 a3 0 A5 (wrap64 (A3 + 1))))) else (none)) else (none)) else (if (rd_T66 l0 a3).f0=true then (some (A8,A4)) else (some (A5,A4))))=some (r1,r2):=H;have A11:=Aside0.mk A110;clear A110
      by_cases c12:A3 < A7
      ·rw [if_pos c12] at H;have c12b0:decide (A3 < A7)=true:=decide_eq_true c12;clear c12
       by_cases c13:0≤((rd_T66 l0 a3).f1)
       ·rw [if_pos c13] at H;have c13b0:decide (0≤((rd_T66 l0 a3).f1))=true:=decide_eq_true c13;clear c13
        by_cases c14:((rd_T66 l0 a3).f1) < (A4.length:Int)
        ·rw [if_pos c14] at H;have c14b0:decide (((rd_T66 l0 a3).f1) < (A4.length:Int))=true:=decide_eq_true c14;clear c14;obtain ⟨y105,hy105⟩:∃ y_:List Int,y_=(A4.set (((rd_T66 l0 a3).f1):Int).toNat A3):=⟨_,rfl⟩
         replace H:((spec_l05Holds.f k1 l0 l1 y105 (wrap64 (a3 + 1))).bind fun bt106=>(if bt106.1=1 then (spec_l05Holds.l0 k1 l0 l1 bt106.2 a3 A8 1 (wrap64 (A3 + 1))) else (spec_l05Holds.l0 k1 l0 l1 bt106.2 a3 0 A5 (wrap64 (A3 + 1)))))=some (r1,r2):=by first|(rw [hy105];with_reducible exact H)|(have H2_:=(Option.bind_some _ _).symm.trans H;rw [hy105];with_reducible exact H2_)|(have H2_:=(Option.bind_some _ _).symm.trans H;with_reducible exact H2_)|with_reducible exact H|(rw [hy105];exact H)|exact H
         have Ny105:=Aside0.mk hy105;clear hy105;replace H:=ob H;obtain ⟨⟨Aa,Ac⟩,A160,H⟩:=H;replace H:(if Aa=1 then (spec_l05Holds.l0 k1 l0 l1 Ac a3 A8 1 (wrap64 (A3 + 1))) else (spec_l05Holds.l0 k1 l0 l1 Ac a3 0 A5 (wrap64 (A3 + 1))))=some (r1,r2):=H;have A16:=Aside0.mk A160;clear A160
         by_cases c17:Aa=1
         ·rw [if_pos c17] at H;have c17b0:(Aa == 1)=true:=beq_iff_eq.mpr c17;have c17b1:(Aa != 1)=false:=bne_eq_false_iff_eq.mpr c17;clear c17;have H':=Aside0.mk H;clear H;have p102:0≤(a3:Int):=od;have q102:a3 < (l0.length:Int):=od;obtain ⟨ad102,e102,hx102_0,hx102_1,hx102_2⟩:=at_T66 (Kd.C_kept_now HR0.out HK.out) a3 p102 q102;cases e102;replace p102:=eq_true p102;replace q102:=eq_true q102
          go_wp2_with (first|((with_reducible refine gate_callee (f:=70) rfl ?_);refine goesL_ (some 28) rfl rfl Try.func70 (by kernel_rfl) rfl #[.int .i64 ((rd_T66 l0 a3).f2)] rfl ml ?_;(with_reducible refine (spec_l01Pow2.calls k1 ((rd_T66 l0 a3).f2) A7 _ A11.out).mono ?_);rintro e w' ⟨rfl,⟨nd,rfl⟩⟩;refine ⟨_,rfl,?_⟩;(try (rw [drewN_self wr];generalize hq_:World.drewN wr _=wr;have n0_:Aside0 (Kd.R (Kd.int .i64) 3 wr w0.heap.size (fun k_=>(P2_ k_∨w.heap.size≤k_)) u9000_ A4):=⟨by rw [← hq_];exact (ra A2)⟩;have n1_:Aside0 (Kept w wr (fun k_=>P2_ k_)):=⟨by rw [← hq_];exact (tk HK)⟩;have n2_:Aside0 (Below w0.heap.size w0 wr):=⟨by rw [← hq_];exact (tb HB)⟩;clear A2 HK HB hq_;have A2:=n0_;have HK:=n1_;have HB:=n2_;clear n0_ n1_ n2_));have p104:0≤(a3:Int):=od;have q104:a3 < (l0.length:Int):=od;obtain ⟨ad104,e104,hx104_0,hx104_1,hx104_2⟩:=at_T66 (Kd.C_kept_now HR0.out HK.out) a3 p104 q104;obtain rfl:ad102=ad104:=(by injection e104);replace p104:=eq_true p104;replace q104:=eq_true q104;have p15:0≤(((rd_T66 l0 a3).f1):Int):=od;have q15:(((rd_T66 l0 a3).f1):Int) < ((A4.length:Int):Int):=od;obtain ⟨go15,A9,eo15,Ad,gl15,cl15,HG15⟩:=Kd.R_form A2.out (by omega);(first|cases eo15|(injection eo15 with ea_ en_ ec_;(first|subst ea_|(injection ea_ with ea_;subst ea_));subst ec_;clear en_));have GB15:=Aside0.mk Ad;have GG15:=Aside0.mk HG15;clear Ad gl15 HG15;have HMgo15:=Aside0.mk (show (P2_ go15∨w.heap.size≤go15) from (A2.out.1 _ rfl));obtain ⟨hx15_0,hf15_0⟩:=Kd.R_celln 0 A2.out (((rd_T66 l0 a3).f1):Int) p15 q15;replace p15:=eq_true p15;replace q15:=eq_true q15;obtain ⟨hy18_,hz18_⟩:=Kd.R_celln 0 A2.out (((rd_T66 l0 a3).f1):Int) (od) (od);have HP18:=Kd.R_putg A2.out (((rd_T66 l0 a3).f1):Int) A3)|((with_reducible refine gate_store (t:=3) (p:=39) rfl ?_);refine store_event (t:=3) (p:=39) (v:=?vo_w19) (w1:=(wr.setCell ⟨go15,(((rd_T66 l0 a3).f1):Int).toNat,none⟩ (.int .i64 A3))) ?hg ?ho ?hn ?hr ?_;(case ho=>rfl);(case hg=>rfl);(case hn=>rfl);(case hr=>first|(go_simp;done)|(go_simp;rfl));intro w19 hw;have hg:wr.grownBy w19 (some go15):=(by rw [hw];exact HP18.2);have hp_:Kd.R (Kd.int .i64) 3 w19 w0.heap.size (fun k_=>(P2_ k_∨w.heap.size≤k_)) (.slice (some ⟨go15,0,none⟩) A4.length A9) y105:=(by rw [hw,Ny105.out];exact HP18.1);clear HP18;replace HB:=Aside0.mk ((by rw [hw];exact below_set (HB.out) GB15.out:Below w0.heap.size w0 w19));replace HK:=Aside0.mk (Kept.of_grown (S:=(fun k_=>P2_ k_)) hg (tk HK) (fun k_ e_=>(A2.out.1 k_ e_)));replace A2:=Aside0.mk (hp_);clear hg hw hp_)|((with_reducible refine gate_callee (f:=93) rfl ?_);refine goesL_ (some 45) rfl rfl Try.func93 (by kernel_rfl) rfl #[.slice (some ad102) l0.length c0,.slice A1 l1.length c1,.slice (some ⟨go15,0,none⟩) A4.length A9,.int .i64 (wrap64 (a3 + 1))] rfl ml ?_;(with_reducible refine (ih k1 (by have:=HK1.out;omega) _ _ l0 _ _ l1 (fun k_=>some k_=(.slice (some ⟨go15,0,none⟩) A4.length A9:Value).ownBlock) (.slice (some ⟨go15,0,none⟩) A4.length A9) y105 (wrap64 (a3 + 1)) Aa Ac w0 _ ?side1 ?side2 ?side3 ?side4 ?side5 ?side6 A16.out).mono ?_);(case side1=>exact tb HB);(case side2=>exact Kd.C_kept_call HR0.out (tk HK) (fun k_ hs_=>(fun e_=>(A2.out.1 k_ e_.symm)) hs_));(case side3=>exact HC0.out);(case side4=>exact Kd.C_kept_call HR1.out (tk HK) (fun k_ hs_=>(fun e_=>(A2.out.1 k_ e_.symm)) hs_));(case side5=>exact HC1.out);(case side6=>exact Kd.R_tight rfl A2.out);rintro e w20 ⟨rfl,hy0,hb,hkp⟩;refine ⟨_,rfl,?_⟩;replace HK:=Aside0.mk (Kept.then_ (S:=(fun k_=>P2_ k_)) (tk HK) hkp (fun k_ hs_=>(fun e_=>(A2.out.1 k_ e_.symm)) hs_));replace A2:=Aside0.mk (Kd.R_reok rfl hy0 (fun k_ e_=>A2.out.1 k_ e_));replace HB:=Aside0.mk (hb);(try clear hb);(try clear hkp);(try clear hy0)))
          go_roundg k1
          case measure=>have:=HK1.out;omega
          case rel=>exact ⟨(Ac),(A8),(1),(wrap64 (A3 + 1)),(by first|rfl|(simp;done)|(simp [*];done)),(by first|rfl|(simp;done)|(simp [*];done)),(by first|rfl|(simp;done)|(simp [*];done)),H',⟨by have:=HK1.out;omega⟩,⟨ra A2⟩,⟨by exact tk HK⟩,⟨by exact tb HB⟩⟩
         ·rw [if_neg c17] at H;have c17b0:(Aa == 1)=false:=beq_eq_false_iff_ne.mpr c17;have c17b1:(Aa != 1)=true:=bne_iff_ne.mpr c17;have H':=Aside0.mk H;clear H;have p102:0≤(a3:Int):=od;have q102:a3 < (l0.length:Int):=od;obtain ⟨ad102,e102,hx102_0,hx102_1,hx102_2⟩:=at_T66 (Kd.C_kept_now HR0.out HK.out) a3 p102 q102;cases e102;replace p102:=eq_true p102;replace q102:=eq_true q102
          go_wp2_with (first|((with_reducible refine gate_callee (f:=70) rfl ?_);refine goesL_ (some 28) rfl rfl Try.func70 (by kernel_rfl) rfl #[.int .i64 ((rd_T66 l0 a3).f2)] rfl ml ?_;(with_reducible refine (spec_l01Pow2.calls k1 ((rd_T66 l0 a3).f2) A7 _ A11.out).mono ?_);rintro e w' ⟨rfl,⟨nd,rfl⟩⟩;refine ⟨_,rfl,?_⟩;(try (rw [drewN_self wr];generalize hq_:World.drewN wr _=wr;have n0_:Aside0 (Kd.R (Kd.int .i64) 3 wr w0.heap.size (fun k_=>(P2_ k_∨w.heap.size≤k_)) u9000_ A4):=⟨by rw [← hq_];exact (ra A2)⟩;have n1_:Aside0 (Kept w wr (fun k_=>P2_ k_)):=⟨by rw [← hq_];exact (tk HK)⟩;have n2_:Aside0 (Below w0.heap.size w0 wr):=⟨by rw [← hq_];exact (tb HB)⟩;clear A2 HK HB hq_;have A2:=n0_;have HK:=n1_;have HB:=n2_;clear n0_ n1_ n2_));have p104:0≤(a3:Int):=od;have q104:a3 < (l0.length:Int):=od;obtain ⟨ad104,e104,hx104_0,hx104_1,hx104_2⟩:=at_T66 (Kd.C_kept_now HR0.out HK.out) a3 p104 q104;obtain rfl:ad102=ad104:=(by injection e104);replace p104:=eq_true p104;replace q104:=eq_true q104;have p15:0≤(((rd_T66 l0 a3).f1):Int):=od;have q15:(((rd_T66 l0 a3).f1):Int) < ((A4.length:Int):Int):=od;obtain ⟨go15,A9,eo15,Ad,gl15,cl15,HG15⟩:=Kd.R_form A2.out (by omega);(first|cases eo15|(injection eo15 with ea_ en_ ec_;(first|subst ea_|(injection ea_ with ea_;subst ea_));subst ec_;clear en_));have GB15:=Aside0.mk Ad;have GG15:=Aside0.mk HG15;clear Ad gl15 HG15;have HMgo15:=Aside0.mk (show (P2_ go15∨w.heap.size≤go15) from (A2.out.1 _ rfl));obtain ⟨hx15_0,hf15_0⟩:=Kd.R_celln 0 A2.out (((rd_T66 l0 a3).f1):Int) p15 q15;replace p15:=eq_true p15;replace q15:=eq_true q15;obtain ⟨hy21_,hz21_⟩:=Kd.R_celln 0 A2.out (((rd_T66 l0 a3).f1):Int) (od) (od);have HP21:=Kd.R_putg A2.out (((rd_T66 l0 a3).f1):Int) A3)|((with_reducible refine gate_store (t:=3) (p:=39) rfl ?_);refine store_event (t:=3) (p:=39) (v:=?vo_w22) (w1:=(wr.setCell ⟨go15,(((rd_T66 l0 a3).f1):Int).toNat,none⟩ (.int .i64 A3))) ?hg ?ho ?hn ?hr ?_;(case ho=>rfl);(case hg=>rfl);(case hn=>rfl);(case hr=>first|(go_simp;done)|(go_simp;rfl));intro w22 hw;have hg:wr.grownBy w22 (some go15):=(by rw [hw];exact HP21.2);have hp_:Kd.R (Kd.int .i64) 3 w22 w0.heap.size (fun k_=>(P2_ k_∨w.heap.size≤k_)) (.slice (some ⟨go15,0,none⟩) A4.length A9) y105:=(by rw [hw,Ny105.out];exact HP21.1);clear HP21;replace HB:=Aside0.mk ((by rw [hw];exact below_set (HB.out) GB15.out:Below w0.heap.size w0 w22));replace HK:=Aside0.mk (Kept.of_grown (S:=(fun k_=>P2_ k_)) hg (tk HK) (fun k_ e_=>(A2.out.1 k_ e_)));replace A2:=Aside0.mk (hp_);clear hg hw hp_)|((with_reducible refine gate_callee (f:=93) rfl ?_);refine goesL_ (some 45) rfl rfl Try.func93 (by kernel_rfl) rfl #[.slice (some ad102) l0.length c0,.slice A1 l1.length c1,.slice (some ⟨go15,0,none⟩) A4.length A9,.int .i64 (wrap64 (a3 + 1))] rfl ml ?_;(with_reducible refine (ih k1 (by have:=HK1.out;omega) _ _ l0 _ _ l1 (fun k_=>some k_=(.slice (some ⟨go15,0,none⟩) A4.length A9:Value).ownBlock) (.slice (some ⟨go15,0,none⟩) A4.length A9) y105 (wrap64 (a3 + 1)) Aa Ac w0 _ ?side1 ?side2 ?side3 ?side4 ?side5 ?side6 A16.out).mono ?_);(case side1=>exact tb HB);(case side2=>exact Kd.C_kept_call HR0.out (tk HK) (fun k_ hs_=>(fun e_=>(A2.out.1 k_ e_.symm)) hs_));(case side3=>exact HC0.out);(case side4=>exact Kd.C_kept_call HR1.out (tk HK) (fun k_ hs_=>(fun e_=>(A2.out.1 k_ e_.symm)) hs_));(case side5=>exact HC1.out);(case side6=>exact Kd.R_tight rfl A2.out);rintro e w23 ⟨rfl,hy0,hb,hkp⟩;refine ⟨_,rfl,?_⟩;replace HK:=Aside0.mk (Kept.then_ (S:=(fun k_=>P2_ k_)) (tk HK) hkp (fun k_ hs_=>(fun e_=>(A2.out.1 k_ e_.symm)) hs_));replace A2:=Aside0.mk (Kd.R_reok rfl hy0 (fun k_ e_=>A2.out.1 k_ e_));replace HB:=Aside0.mk (hb);(try clear hb);(try clear hkp);(try clear hy0)))
          go_roundg k1
          case measure=>have:=HK1.out;omega
          case rel=>exact ⟨(Ac),(0),(A5),(wrap64 (A3 + 1)),(by first|rfl|(simp;done)|(simp [*];done)),(by first|rfl|(simp;done)|(simp [*];done)),(by first|rfl|(simp;done)|(simp [*];done)),H',⟨by have:=HK1.out;omega⟩,⟨ra A2⟩,⟨by exact tk HK⟩,⟨by exact tb HB⟩⟩
        ·rw [if_neg c14] at H;exact absurd H (by simp)
       ·rw [if_neg c13] at H;exact absurd H (by simp)
      ·rw [if_neg c12] at H;have c12b0:decide (A3 < A7)=false:=decide_eq_false c12;clear c12;obtain ⟨bq24,hbq24⟩:∃ b_:Bool,b_=((rd_T66 l0 a3).f0):=⟨_,rfl⟩
       replace H:(if bq24=true then (some (A8,A4)) else (some (A5,A4)))=some (r1,r2):=by rw [← hbq24] at H;exact H
       have Nbq24:=Aside0.mk hbq24;clear hbq24
       by_cases c25:bq24=true
       ·subst c25
        have H1:(some (A8,A4))=some (r1,r2):=by rw [if_pos rfl] at H;exact H
        clear H;have H:=H1;clear H1;simp only [Option.some.injEq,Prod.mk.injEq] at H;obtain ⟨rfl,rfl⟩:=H;have p102:0≤(a3:Int):=od;have q102:a3 < (l0.length:Int):=od;obtain ⟨ad102,e102,hx102_0,hx102_1,hx102_2⟩:=at_T66 (Kd.C_kept_now HR0.out HK.out) a3 p102 q102
        (try rw [← Nbq24.out] at hx102_0)
        cases e102;replace p102:=eq_true p102;replace q102:=eq_true q102;go_wp2_with (first|((with_reducible refine gate_callee (f:=70) rfl ?_);refine goesL_ (some 28) rfl rfl Try.func70 (by kernel_rfl) rfl #[.int .i64 ((rd_T66 l0 a3).f2)] rfl ml ?_;(with_reducible refine (spec_l01Pow2.calls k1 ((rd_T66 l0 a3).f2) A7 _ A11.out).mono ?_);rintro e w' ⟨rfl,⟨nd,rfl⟩⟩;refine ⟨_,rfl,?_⟩;have p108:0≤(a3:Int):=od;have q108:a3 < (l0.length:Int):=od;obtain ⟨ad108,e108,hx108_0,hx108_1,hx108_2⟩:=at_T66 (Kd.C_kept_now HR0.out HK.out) a3 p108 q108;(try rw [← Nbq24.out] at hx108_0);obtain rfl:ad102=ad108:=(by injection e108);replace p108:=eq_true p108;replace q108:=eq_true q108));go_ret;exact ⟨er,ra A2,tb HB,tk HK⟩
       ·replace c25:=Bool.eq_false_iff.mpr c25;subst c25
        have H1:(some (A5,A4))=some (r1,r2):=by rw [if_neg (show ¬ (false=true) by decide)] at H;exact H
        clear H;have H:=H1;clear H1;simp only [Option.some.injEq,Prod.mk.injEq] at H;obtain ⟨rfl,rfl⟩:=H;have p102:0≤(a3:Int):=od;have q102:a3 < (l0.length:Int):=od;obtain ⟨ad102,e102,hx102_0,hx102_1,hx102_2⟩:=at_T66 (Kd.C_kept_now HR0.out HK.out) a3 p102 q102
        (try rw [← Nbq24.out] at hx102_0)
        cases e102;replace p102:=eq_true p102;replace q102:=eq_true q102;go_wp2_with (first|((with_reducible refine gate_callee (f:=70) rfl ?_);refine goesL_ (some 28) rfl rfl Try.func70 (by kernel_rfl) rfl #[.int .i64 ((rd_T66 l0 a3).f2)] rfl ml ?_;(with_reducible refine (spec_l01Pow2.calls k1 ((rd_T66 l0 a3).f2) A7 _ A11.out).mono ?_);rintro e w' ⟨rfl,⟨nd,rfl⟩⟩;refine ⟨_,rfl,?_⟩;have p108:0≤(a3:Int):=od;have q108:a3 < (l0.length:Int):=od;obtain ⟨ad108,e108,hx108_0,hx108_1,hx108_2⟩:=at_T66 (Kd.C_kept_now HR0.out HK.out) a3 p108 q108;(try rw [← Nbq24.out] at hx108_0);obtain rfl:ad102=ad108:=(by injection e108);replace p108:=eq_true p108;replace q108:=eq_true q108));go_ret;exact ⟨er,ra A2,tb HB,tk HK⟩
     ·rw [if_neg c10] at H;exact absurd H (by simp)
    ·rw [if_neg c9] at H;exact absurd H (by simp)
def spec_HoldsFront.j0:Nat→List (S66)→List (S99)→Bool→Option (Int × Bool)
 | 0,_,_,_=>none
 | k + 1,x0,x1,x14=>if x14=true then (some (0,false)) else ((spec_l04Zeros.f k).bind fun A3=>((spec_l05Holds.f k x0 x1 A3 0).bind fun bt106=>(some (bt106.1,true))))
def spec_HoldsFront.f (k:Nat) (l0:List (S66)) (l1:List (S99)):Option (Int × Bool):=(spec_FrontOk.f k l0 l1).bind fun A8=>(if A8=true then ((spec_l05Bits.f k l0).bind fun A2=>(spec_HoldsFront.j0 k l0 l1 (decide (A2 > 12)))) else (spec_HoldsFront.j0 k l0 l1 true))
set_option maxHeartbeats 8000000 in
set_option maxRecDepth 100000 in
theorem spec_HoldsFront.calls (k:Nat) (A0:Option Addr) (c0:Nat) (l0:List (S66)) (A1:Option Addr) (c1:Nat) (l1:List (S99)) (r1:Int) (r2:Bool) (w:World) (hr0:Kd.C k66 w A0 l0.length l0) (hc0:l0.length≤c0) (hr1:Kd.C k99 w A1 l1.length l1) (hc1:l1.length≤c1) (h:spec_HoldsFront.f k l0 l1=some (r1,r2)) :
  Calls Try.prog 41 #[.slice A0 l0.length c0,.slice A1 l1.length c1] w fun e w'=>e = .returned (.tuple #[.int .i64 r1,.bool r2])∧Below w.heap.size w w':=by
 have HR0:=Aside0.mk hr0;have HC0:=Aside0.mk hc0;clear hr0 hc0;have HR1:=Aside0.mk hr1;have HC1:=Aside0.mk hc1;clear hr1 hc1;have HB:=Aside0.mk (Below.refl w.heap.size w);have H:((spec_FrontOk.f k l0 l1).bind fun A8=>(if A8=true then ((spec_l05Bits.f k l0).bind fun A2=>(spec_HoldsFront.j0 k l0 l1 (decide (A2 > 12)))) else (spec_HoldsFront.j0 k l0 l1 true)))=some (r1,r2):=h;clear h;have HC3:=Aside0.mk H;clear H
 go_enter Try.func41,Try.ntmps41
 go_upto_region 1 with (fail)
 go_cut [14] (fun v14 wc=>∃ (kq:Nat) (A7:Bool),v14 = .bool A7∧Aside0 (spec_HoldsFront.j0 kq l0 l1 A7=some (r1,r2))∧Aside0 (kq≤k)∧Aside0 (Below w.heap.size w wc))
 case first =>
  have H:=HC3.out;clear HC3;replace H:=ob H;obtain ⟨A8,A40,H⟩:=H;replace H:(if A8=true then ((spec_l05Bits.f k l0).bind fun A2=>(spec_HoldsFront.j0 k l0 l1 (decide (A2 > 12)))) else (spec_HoldsFront.j0 k l0 l1 true))=some (r1,r2):=H;have A4:=Aside0.mk A40;clear A40
  by_cases c5:A8=true
  ·subst c5
   have H1:((spec_l05Bits.f k l0).bind fun A2=>(spec_HoldsFront.j0 k l0 l1 (decide (A2 > 12))))=some (r1,r2):=by rw [if_pos rfl] at H;exact H
   clear H;have H:=H1;clear H1;replace H:=ob H;obtain ⟨A2,A60,H⟩:=H;replace H:(spec_HoldsFront.j0 k l0 l1 (decide (A2 > 12)))=some (r1,r2):=H;have A6:=Aside0.mk A60;clear A60;have H':=Aside0.mk H;clear H;go_wp2_with (first|((with_reducible refine gate_callee (f:=81) rfl ?_);refine goesL_ (some 8) rfl rfl Try.func81 (by kernel_rfl) rfl #[.slice A0 l0.length c0,.slice A1 l1.length c1] rfl ml ?_;(with_reducible refine (spec_FrontOk.calls k _ _ l0 _ _ l1 true _ ?side1 ?side2 ?side3 ?side4 A4.out).mono ?_);(case side1=>exact cw (Kd.C_below HR0.out HB.out));(case side2=>exact HC0.out);(case side3=>exact cw (Kd.C_below HR1.out HB.out));(case side4=>exact HC1.out);rintro e w7 ⟨rfl,hb⟩;refine ⟨_,rfl,?_⟩;replace HB:=Aside0.mk (below_step (tb HB) hb);(try clear hb);(try clear hb2);(try clear hk);(try clear hi))|(go_at_call 80;(try simp only [i64_w,i32_w]);(with_reducible refine (spec_l05Bits.calls k _ _ l0 A2 _ ?side1 ?side2 A6.out).mono ?_);(case side1=>exact cw (Kd.C_below HR0.out HB.out));(case side2=>exact HC0.out);rintro e w' ⟨rfl,⟨nd,rfl⟩⟩));go_meet
   case rel=>exact ⟨_,(decide (A2 > 12)),(by first|rfl|(simp;done)|(simp [*];done)),H',⟨by first|omega|exact Nat.le_refl _⟩,⟨by exact tb HB⟩⟩
  ·replace c5:=Bool.eq_false_iff.mpr c5;subst c5
   have H1:(spec_HoldsFront.j0 k l0 l1 true)=some (r1,r2):=by rw [if_neg (show ¬ (false=true) by decide)] at H;exact H
   clear H;have H:=H1;clear H1;have H':=Aside0.mk H;clear H;go_wp2_with (first|((with_reducible refine gate_callee (f:=81) rfl ?_);refine goesL_ (some 8) rfl rfl Try.func81 (by kernel_rfl) rfl #[.slice A0 l0.length c0,.slice A1 l1.length c1] rfl ml ?_;(with_reducible refine (spec_FrontOk.calls k _ _ l0 _ _ l1 false _ ?side1 ?side2 ?side3 ?side4 A4.out).mono ?_);(case side1=>exact cw (Kd.C_below HR0.out HB.out));(case side2=>exact HC0.out);(case side3=>exact cw (Kd.C_below HR1.out HB.out));(case side4=>exact HC1.out);rintro e w8 ⟨rfl,hb⟩;refine ⟨_,rfl,?_⟩;replace HB:=Aside0.mk (below_step (tb HB) hb);(try clear hb);(try clear hb2);(try clear hk);(try clear hi)));go_meet
   case rel=>exact ⟨_,(true),(by first|rfl|(simp;done)|(simp [*];done)),H',⟨by first|omega|exact Nat.le_refl _⟩,⟨by exact tb HB⟩⟩
 case rest =>
  clear HC3;(try clear c1);(try clear p2);(try clear c4);(try clear c5);(try clear c8);obtain ⟨kq,A7,rfl,HA,HJ2,HB⟩:=hcut
  cases kq with
  | zero=>exact absurd HA.out (by simp [spec_HoldsFront.j0])
  | succ kj2 =>
   have H:=HA.out;clear HA;simp only [spec_HoldsFront.j0] at H
   by_cases c9:A7=true
   ·subst c9
    have H1:(some (0,false))=some (r1,r2):=by rw [if_pos rfl] at H;exact H
    clear H;have H:=H1;clear H1;simp only [Option.some.injEq,Prod.mk.injEq] at H;obtain ⟨rfl,rfl⟩:=H;go_wp2;go_ret2;exact ⟨er,tb HB⟩
   ·replace c9:=Bool.eq_false_iff.mpr c9;subst c9
    have H1:((spec_l04Zeros.f kj2).bind fun A3=>((spec_l05Holds.f kj2 l0 l1 A3 0).bind fun bt106=>(some (bt106.1,true))))=some (r1,r2):=by rw [if_neg (show ¬ (false=true) by decide)] at H;exact H
    clear H;have H:=H1;clear H1;replace H:=ob H;obtain ⟨A3,A100,H⟩:=H;replace H:((spec_l05Holds.f kj2 l0 l1 A3 0).bind fun bt106=>(some (bt106.1,true)))=some (r1,r2):=H;have A10:=Aside0.mk A100;clear A100;replace H:=ob H;obtain ⟨⟨Ab,t107⟩,A110,H⟩:=H;replace H:(some (Ab,true))=some (r1,r2):=H;have A11:=Aside0.mk A110;clear A110;simp only [Option.some.injEq,Prod.mk.injEq] at H;obtain ⟨rfl,rfl⟩:=H;go_wp2_with (first|((with_reducible refine gate_callee (f:=82) rfl ?_);refine goesL_ (some 17) rfl rfl Try.func82 (by kernel_rfl) rfl #[] rfl ml ?_;(with_reducible refine (spec_l04Zeros.calls kj2  A3 _ A10.out).mono ?_);rintro e w12 ⟨v104,rfl,ho0,hb⟩;refine ⟨_,rfl,?_⟩;have A5:=Aside0.mk (Kd.R_lower ho0 (below_size (tb HB)));replace HB:=Aside0.mk (below_step (tb HB) hb);(try clear hb);(try clear hb2);(try clear hk);(try clear hi);(try clear ho0);obtain ⟨A9,Aa,eo13⟩:=Kd.R_slice A5.out;subst eo13)|((with_reducible refine gate_callee (f:=93) rfl ?_);refine goesL_ (some 18) rfl rfl Try.func93 (by kernel_rfl) rfl #[.slice A0 l0.length c0,.slice A1 l1.length c1,.slice A9 A3.length Aa,.int .i64 0] rfl ml ?_;(with_reducible refine (spec_l05Holds.calls kj2 _ _ l0 _ _ l1 (fun k_=>some k_=(.slice A9 A3.length Aa:Value).ownBlock) (.slice A9 A3.length Aa) A3 0 Ab t107 w _ ?side1 ?side2 ?side3 ?side4 ?side5 ?side6 A11.out).mono ?_);(case side1=>exact tb HB);(case side2=>exact Kd.C_kept_came k66_heap HR0.out (tb HB) (fun k_ hs_=>(fun e_=>Kd.R_base A5.out k_ e_.symm) hs_));(case side3=>exact HC0.out);(case side4=>exact Kd.C_kept_came k99_heap HR1.out (tb HB) (fun k_ hs_=>(fun e_=>Kd.R_base A5.out k_ e_.symm) hs_));(case side5=>exact HC1.out);(case side6=>exact Kd.R_tight rfl A5.out);rintro e w14 ⟨rfl,hy0,hb,hkp⟩;refine ⟨_,rfl,?_⟩;replace A5:=Aside0.mk (Kd.R_reok rfl hy0 (fun k_ e_=>A5.out.1 k_ e_));replace HB:=Aside0.mk (hb);(try clear hb);(try clear hkp);(try clear hy0)));go_ret2;exact ⟨er,tb HB⟩
def laws_FnExactHoldsFront.j0:Nat→List (S97)→List (S101)→List (S66)→List (S99)→Bool→Option (Bool)
 | 0,_,_,_,_,_=>none
 | k + 1,x0,x1,x8,x9,x47=>if x47=true then (some false) else ((laws_toQuantS.f k x0).bind fun Ao=>((laws_eqQuantS.f k x8 Ao).bind fun Ap=>(if Ap=true then ((laws_toNodeS.f k x1).bind fun Ac=>((laws_eqNodeS.f k x9 Ac).bind fun Ad=>(if Ad=true then (some true) else (some false)))) else (some false))))
def laws_FnExactHoldsFront.f (k:Nat) (l0:List (S97)) (l1:List (S101)):Option (Bool):=(laws_szQuantS.f l0 1048576).bind fun Ab=>(if Ab < 0 then (some true) else ((laws_szNodeS.f l1 Ab).bind fun Ai=>(if Ai < 0 then (some true) else ((laws_toQuantS.f k l0).bind fun Ah=>((laws_toNodeS.f k l1).bind fun Ae=>((spec_HoldsFront.f k Ah Ae).bind fun bt109=>((laws_toQuantS.f k l0).bind fun A4=>((laws_toNodeS.f k l1).bind fun A2=>((impl_HoldsFront.f k A4 A2).bind fun bt117=>(if bt117.1=bt109.1 then (laws_FnExactHoldsFront.j0 k l0 l1 A4 A2 (bt117.2 != bt109.2)) else (laws_FnExactHoldsFront.j0 k l0 l1 A4 A2 true)))))))))))
set_option maxHeartbeats 8000000 in
set_option maxRecDepth 100000 in
theorem laws_FnExactHoldsFront.calls (k:Nat) (A0:Option Addr) (c0:Nat) (l0:List (S97)) (A1:Option Addr) (c1:Nat) (l1:List (S101)) (r:Bool) (w:World) (hr0:Kd.C k97 w A0 l0.length l0) (hc0:l0.length≤c0) (hr1:Kd.C k101 w A1 l1.length l1) (hc1:l1.length≤c1) (ht_:r=true) (h:laws_FnExactHoldsFront.f k l0 l1=some r) :
  Calls Try.prog 8 #[.slice A0 l0.length c0,.slice A1 l1.length c1] w fun e w'=>e = .returned (.bool r)∧Below w.heap.size w w':=by
 have HT:=Aside0.mk ht_;clear ht_;have HR0:=Aside0.mk hr0;have HC0:=Aside0.mk hc0;clear hr0 hc0;have HR1:=Aside0.mk hr1;have HC1:=Aside0.mk hc1;clear hr1 hc1;have HB:=Aside0.mk (Below.refl w.heap.size w);have H:((laws_szQuantS.f l0 1048576).bind fun Ab=>(if Ab < 0 then (some true) else ((laws_szNodeS.f l1 Ab).bind fun Ai=>(if Ai < 0 then (some true) else ((laws_toQuantS.f k l0).bind fun Ah=>((laws_toNodeS.f k l1).bind fun Ae=>((spec_HoldsFront.f k Ah Ae).bind fun bt109=>((laws_toQuantS.f k l0).bind fun A4=>((laws_toNodeS.f k l1).bind fun A2=>((impl_HoldsFront.f k A4 A2).bind fun bt117=>(if bt117.1=bt109.1 then (laws_FnExactHoldsFront.j0 k l0 l1 A4 A2 (bt117.2 != bt109.2)) else (laws_FnExactHoldsFront.j0 k l0 l1 A4 A2 true))))))))))))=some r:=h;clear h;replace H:=ob H;obtain ⟨Ab,A30,H⟩:=H;replace H:(if Ab < 0 then (some true) else ((laws_szNodeS.f l1 Ab).bind fun Ai=>(if Ai < 0 then (some true) else ((laws_toQuantS.f k l0).bind fun Ah=>((laws_toNodeS.f k l1).bind fun Ae=>((spec_HoldsFront.f k Ah Ae).bind fun bt109=>((laws_toQuantS.f k l0).bind fun A4=>((laws_toNodeS.f k l1).bind fun A2=>((impl_HoldsFront.f k A4 A2).bind fun bt117=>(if bt117.1=bt109.1 then (laws_FnExactHoldsFront.j0 k l0 l1 A4 A2 (bt117.2 != bt109.2)) else (laws_FnExactHoldsFront.j0 k l0 l1 A4 A2 true)))))))))))=some r:=H;have A3:=Aside0.mk A30;clear A30
 by_cases c4:Ab < 0
 ·rw [if_pos c4] at H;have c4b0:decide (Ab < 0)=true:=decide_eq_true c4;clear c4;obtain rfl:=os H
  go_enter Try.func8,Try.ntmps8
  go_wp2_with (first|((with_reducible refine gate_callee (f:=32) rfl ?_);refine goesL_ (some 14) rfl rfl Try.func32 (by kernel_rfl) rfl #[.slice A0 l0.length c0,.int .i64 1048576] rfl ml ?_;(with_reducible refine (laws_szQuantS.calls _ _ l0 1048576 Ab _ ?side1 ?side2 A3.out).mono ?_);(case side1=>exact cw HR0.out);(case side2=>exact HC0.out);rintro e w' ⟨rfl,⟨nd,rfl⟩⟩;refine ⟨_,rfl,?_⟩));go_ret;exact ⟨er,tb HB⟩
 ·rw [if_neg c4] at H;have c4b0:decide (Ab < 0)=false:=decide_eq_false c4;clear c4;replace H:=ob H;obtain ⟨Ai,A50,H⟩:=H;replace H:(if Ai < 0 then (some true) else ((laws_toQuantS.f k l0).bind fun Ah=>((laws_toNodeS.f k l1).bind fun Ae=>((spec_HoldsFront.f k Ah Ae).bind fun bt109=>((laws_toQuantS.f k l0).bind fun A4=>((laws_toNodeS.f k l1).bind fun A2=>((impl_HoldsFront.f k A4 A2).bind fun bt117=>(if bt117.1=bt109.1 then (laws_FnExactHoldsFront.j0 k l0 l1 A4 A2 (bt117.2 != bt109.2)) else (laws_FnExactHoldsFront.j0 k l0 l1 A4 A2 true)))))))))=some r:=H;have A5:=Aside0.mk A50;clear A50
  by_cases c6:Ai < 0
  ·rw [if_pos c6] at H;have c6b0:decide (Ai < 0)=true:=decide_eq_true c6;clear c6;obtain rfl:=os H
   go_enter Try.func8,Try.ntmps8
   go_wp2_with (first|((with_reducible refine gate_callee (f:=32) rfl ?_);refine goesL_ (some 14) rfl rfl Try.func32 (by kernel_rfl) rfl #[.slice A0 l0.length c0,.int .i64 1048576] rfl ml ?_;(with_reducible refine (laws_szQuantS.calls _ _ l0 1048576 Ab _ ?side1 ?side2 A3.out).mono ?_);(case side1=>exact cw HR0.out);(case side2=>exact HC0.out);rintro e w' ⟨rfl,⟨nd,rfl⟩⟩;refine ⟨_,rfl,?_⟩)|((with_reducible refine gate_callee (f:=33) rfl ?_);refine goesL_ (some 19) rfl rfl Try.func33 (by kernel_rfl) rfl #[.slice A1 l1.length c1,.int .i64 Ab] rfl ml ?_;(with_reducible refine (laws_szNodeS.calls _ _ l1 Ab Ai _ ?side1 ?side2 A5.out).mono ?_);(case side1=>exact cw HR1.out);(case side2=>exact HC1.out);rintro e w' ⟨rfl,⟨nd,rfl⟩⟩;refine ⟨_,rfl,?_⟩));go_ret;exact ⟨er,tb HB⟩
  ·rw [if_neg c6] at H;have c6b0:decide (Ai < 0)=false:=decide_eq_false c6;clear c6;replace H:=ob H;obtain ⟨Ah,A70,H⟩:=H;replace H:((laws_toNodeS.f k l1).bind fun Ae=>((spec_HoldsFront.f k Ah Ae).bind fun bt109=>((laws_toQuantS.f k l0).bind fun A4=>((laws_toNodeS.f k l1).bind fun A2=>((impl_HoldsFront.f k A4 A2).bind fun bt117=>(if bt117.1=bt109.1 then (laws_FnExactHoldsFront.j0 k l0 l1 A4 A2 (bt117.2 != bt109.2)) else (laws_FnExactHoldsFront.j0 k l0 l1 A4 A2 true)))))))=some r:=H;have A7:=Aside0.mk A70;clear A70;replace H:=ob H;obtain ⟨Ae,A80,H⟩:=H;replace H:((spec_HoldsFront.f k Ah Ae).bind fun bt109=>((laws_toQuantS.f k l0).bind fun A4=>((laws_toNodeS.f k l1).bind fun A2=>((impl_HoldsFront.f k A4 A2).bind fun bt117=>(if bt117.1=bt109.1 then (laws_FnExactHoldsFront.j0 k l0 l1 A4 A2 (bt117.2 != bt109.2)) else (laws_FnExactHoldsFront.j0 k l0 l1 A4 A2 true))))))=some r:=H;have A8:=Aside0.mk A80;clear A80;replace H:=ob H;obtain ⟨⟨Am,As⟩,A90,H⟩:=H;replace H:((laws_toQuantS.f k l0).bind fun A4=>((laws_toNodeS.f k l1).bind fun A2=>((impl_HoldsFront.f k A4 A2).bind fun bt117=>(if bt117.1=Am then (laws_FnExactHoldsFront.j0 k l0 l1 A4 A2 (bt117.2 != As)) else (laws_FnExactHoldsFront.j0 k l0 l1 A4 A2 true)))))=some r:=H;have A9:=Aside0.mk A90;clear A90;replace H:=ob H;obtain ⟨A4,A100,H⟩:=H;replace H:((laws_toNodeS.f k l1).bind fun A2=>((impl_HoldsFront.f k A4 A2).bind fun bt117=>(if bt117.1=Am then (laws_FnExactHoldsFront.j0 k l0 l1 A4 A2 (bt117.2 != As)) else (laws_FnExactHoldsFront.j0 k l0 l1 A4 A2 true))))=some r:=H;have A10:=Aside0.mk A100;clear A100;replace H:=ob H;obtain ⟨A2,A110,H⟩:=H;replace H:((impl_HoldsFront.f k A4 A2).bind fun bt117=>(if bt117.1=Am then (laws_FnExactHoldsFront.j0 k l0 l1 A4 A2 (bt117.2 != As)) else (laws_FnExactHoldsFront.j0 k l0 l1 A4 A2 true)))=some r:=H;have A11:=Aside0.mk A110;clear A110;replace H:=ob H;obtain ⟨⟨Ar,At⟩,A120,H⟩:=H;replace H:(if Ar=Am then (laws_FnExactHoldsFront.j0 k l0 l1 A4 A2 (At != As)) else (laws_FnExactHoldsFront.j0 k l0 l1 A4 A2 true))=some r:=H;have A12:=Aside0.mk A120;clear A120;have HC13:=Aside0.mk H;clear H
   go_enter Try.func8,Try.ntmps8
   go_upto_region 12 with (first|((with_reducible refine gate_callee (f:=32) rfl ?_);refine goesL_ (some 14) rfl rfl Try.func32 (by kernel_rfl) rfl #[.slice A0 l0.length c0,.int .i64 1048576] rfl ml ?_;(with_reducible refine (laws_szQuantS.calls _ _ l0 1048576 Ab _ ?side1 ?side2 A3.out).mono ?_);(case side1=>exact cw HR0.out);(case side2=>exact HC0.out);rintro e w' ⟨rfl,⟨nd,rfl⟩⟩;refine ⟨_,rfl,?_⟩)|((with_reducible refine gate_callee (f:=33) rfl ?_);refine goesL_ (some 19) rfl rfl Try.func33 (by kernel_rfl) rfl #[.slice A1 l1.length c1,.int .i64 Ab] rfl ml ?_;(with_reducible refine (laws_szNodeS.calls _ _ l1 Ab Ai _ ?side1 ?side2 A5.out).mono ?_);(case side1=>exact cw HR1.out);(case side2=>exact HC1.out);rintro e w' ⟨rfl,⟨nd,rfl⟩⟩;refine ⟨_,rfl,?_⟩)|((with_reducible refine gate_callee (f:=35) rfl ?_);refine goesL_ (some 24) rfl rfl Try.func35 (by kernel_rfl) rfl #[.slice A0 l0.length c0] rfl ml ?_;(with_reducible refine (laws_toQuantS.calls k _ _ l0 Ah _ ?side1 ?side2 A7.out).mono ?_);(case side1=>exact cw HR0.out);(case side2=>exact HC0.out);rintro e w14 ⟨v104,rfl,ho0,hb⟩;refine ⟨_,rfl,?_⟩;have A6:=Aside0.mk (Kd.R_lower ho0 (below_size (tb HB)));replace HB:=Aside0.mk (below_step (tb HB) hb);(try clear hb);(try clear hb2);(try clear hk);(try clear hi);(try clear ho0))|((with_reducible refine gate_callee (f:=36) rfl ?_);refine goesL_ (some 26) rfl rfl Try.func36 (by kernel_rfl) rfl #[.slice A1 l1.length c1] rfl ml ?_;(with_reducible refine (laws_toNodeS.calls k _ _ l1 Ae _ ?side1 ?side2 A8.out).mono ?_);(case side1=>exact cw (Kd.C_below HR1.out HB.out));(case side2=>exact HC1.out);rintro e w15 ⟨v107,rfl,ho0,hb⟩;refine ⟨_,rfl,?_⟩;replace A6:=Aside0.mk (Kd.R_below (ra A6) hb);have Aa:=Aside0.mk (Kd.R_lower ho0 (below_size (tb HB)));replace HB:=Aside0.mk (below_step (tb HB) hb);(try clear hb);(try clear hb2);(try clear hk);(try clear hi);(try clear ho0);obtain ⟨Ao16,co16,eo16⟩:=Kd.R_slice A6.out;subst eo16;obtain ⟨Ao17,co17,eo17⟩:=Kd.R_slice Aa.out;subst eo17)|((with_reducible refine gate_callee (f:=41) rfl ?_);refine goesL_ (some 27) rfl rfl Try.func41 (by kernel_rfl) rfl #[.slice Ao16 Ah.length co16,.slice Ao17 Ae.length co17] rfl ml ?_;(with_reducible refine (spec_HoldsFront.calls k _ _ Ah _ _ Ae Am As _ ?side1 ?side2 ?side3 ?side4 A9.out).mono ?_);(case side1=>exact cw (Kd.R_reads' A6.out).2.2);(case side2=>exact (Kd.R_reads' A6.out).2.1);(case side3=>exact cw (Kd.R_reads' Aa.out).2.2);(case side4=>exact (Kd.R_reads' Aa.out).2.1);rintro e w18 ⟨rfl,hb⟩;refine ⟨_,rfl,?_⟩;replace A6:=Aside0.mk (Kd.R_below (ra A6) hb);replace Aa:=Aside0.mk (Kd.R_below (ra Aa) hb);replace HB:=Aside0.mk (below_step (tb HB) hb);(try clear hb);(try clear hb2);(try clear hk);(try clear hi))|((with_reducible refine gate_callee (f:=35) rfl ?_);refine goesL_ (some 31) rfl rfl Try.func35 (by kernel_rfl) rfl #[.slice A0 l0.length c0] rfl ml ?_;(with_reducible refine (laws_toQuantS.calls k _ _ l0 A4 _ ?side1 ?side2 A10.out).mono ?_);(case side1=>exact cw (Kd.C_below HR0.out HB.out));(case side2=>exact HC0.out);rintro e w19 ⟨v112,rfl,ho0,hb⟩;refine ⟨_,rfl,?_⟩;replace Aa:=Aside0.mk (Kd.R_below (ra Aa) hb);have Af:=Aside0.mk (Kd.R_lower (Kd.R_new' ho0 (Kd.R_lt (ra A6))) (below_size (tb HB)));replace A6:=Aside0.mk (Kd.R_elder' (ra A6) (Kd.R_base ho0) hb);replace HB:=Aside0.mk (below_step (tb HB) hb);(try clear hb);(try clear hb2);(try clear hk);(try clear hi);(try clear ho0))|((with_reducible refine gate_callee (f:=36) rfl ?_);refine goesL_ (some 33) rfl rfl Try.func36 (by kernel_rfl) rfl #[.slice A1 l1.length c1] rfl ml ?_;(with_reducible refine (laws_toNodeS.calls k _ _ l1 A2 _ ?side1 ?side2 A11.out).mono ?_);(case side1=>exact cw (Kd.C_below HR1.out HB.out));(case side2=>exact HC1.out);rintro e w20 ⟨v115,rfl,ho0,hb⟩;refine ⟨_,rfl,?_⟩;replace A6:=Aside0.mk (Kd.R_below (ra A6) hb);replace Af:=Aside0.mk (Kd.R_below (ra Af) hb);have Aj:=Aside0.mk (Kd.R_lower (Kd.R_new' ho0 (Kd.R_lt (ra Aa))) (below_size (tb HB)));replace Aa:=Aside0.mk (Kd.R_elder' (ra Aa) (Kd.R_base ho0) hb);replace HB:=Aside0.mk (below_step (tb HB) hb);(try clear hb);(try clear hb2);(try clear hk);(try clear hi);(try clear ho0);obtain ⟨Au,Av,eo21⟩:=Kd.R_slice Af.out;subst eo21;obtain ⟨Aw,Ax,eo22⟩:=Kd.R_slice Aj.out;subst eo22)|((with_reducible refine gate_callee (f:=42) rfl ?_);refine goesL_ (some 37) rfl rfl Try.func42 (by kernel_rfl) rfl #[.slice Au A4.length Av,.slice Aw A2.length Ax] rfl ml ?_;(with_reducible refine (impl_HoldsFront.calls k _ _ A4 _ _ A2 Ar At _ ?side1 ?side2 ?side3 ?side4 A12.out).mono ?_);(case side1=>exact cw (Kd.R_reads' Af.out).2.2);(case side2=>exact (Kd.R_reads' Af.out).2.1);(case side3=>exact cw (Kd.R_reads' Aj.out).2.2);(case side4=>exact (Kd.R_reads' Aj.out).2.1);rintro e w23 ⟨rfl,hb⟩;refine ⟨_,rfl,?_⟩;replace A6:=Aside0.mk (Kd.R_below (ra A6) hb);replace Aa:=Aside0.mk (Kd.R_below (ra Aa) hb);replace Af:=Aside0.mk (Kd.R_below (ra Af) hb);replace Aj:=Aside0.mk (Kd.R_below (ra Aj) hb);replace HB:=Aside0.mk (below_step (tb HB) hb);(try clear hb);(try clear hb2);(try clear hk);(try clear hi)))
   (try simp only [Act.put,List.setIfInBounds_toArray,List.set_cons_zero,List.set_cons_succ])
   go_cut [47] (fun v47 wc=>∃ (kq:Nat) (An:Bool),v47 = .bool An∧Aside0 (laws_FnExactHoldsFront.j0 kq l0 l1 A4 A2 An=some r)∧Aside0 (kq≤k)∧Aside0 (Kd.R k66 66 wc w.heap.size (fun _=>True) (.slice Au A4.length Av) A4)∧Aside0 (Kd.R k99 99 wc w.heap.size (fun _=>True) (.slice Aw A2.length Ax) A2)∧Aside0 (Below w.heap.size w wc))
   case first =>
    have H:=HC13.out;clear HC13
    by_cases c24:Ar=Am
    ·rw [if_pos c24] at H;have c24b0:(Ar == Am)=true:=beq_iff_eq.mpr c24;have c24b1:(Ar != Am)=false:=bne_eq_false_iff_eq.mpr c24;clear c24;(first|rw [c24b0]|(simp only [i64_w,i32_w];rw [c24b0])|skip);have H':=Aside0.mk H;clear H;go_wp2;go_meet
     case rel=>exact ⟨_,((At != As)),(by first|rfl|(simp;done)|(simp [*];done)),H',⟨by first|omega|exact Nat.le_refl _⟩,⟨by (with_reducible repeat (first|apply Kd.R_alloc|apply Kd.R_drewN|apply Kd.R_drew));exact Kd.R_mono Af.out (fun _ hk=>trivial)⟩,⟨by (with_reducible repeat (first|apply Kd.R_alloc|apply Kd.R_drewN|apply Kd.R_drew));exact Kd.R_mono Aj.out (fun _ hk=>trivial)⟩,⟨by exact tb HB⟩⟩
    ·rw [if_neg c24] at H;have c24b0:(Ar == Am)=false:=beq_eq_false_iff_ne.mpr c24;have c24b1:(Ar != Am)=true:=bne_iff_ne.mpr c24;(first|rw [c24b0]|(simp only [i64_w,i32_w];rw [c24b0])|skip);have H':=Aside0.mk H;clear H;go_wp2;go_meet
     case rel=>exact ⟨_,(true),(by first|rfl|(simp;done)|(simp [*];done)),H',⟨by first|omega|exact Nat.le_refl _⟩,⟨by (with_reducible repeat (first|apply Kd.R_alloc|apply Kd.R_drewN|apply Kd.R_drew));exact Kd.R_mono Af.out (fun _ hk=>trivial)⟩,⟨by (with_reducible repeat (first|apply Kd.R_alloc|apply Kd.R_drewN|apply Kd.R_drew));exact Kd.R_mono Aj.out (fun _ hk=>trivial)⟩,⟨by exact tb HB⟩⟩
   case rest =>
    clear HC13;(try clear c1);(try clear c2);(try clear p2);(try clear c3);(try clear c4);(try clear c4b0);(try clear c6);(try clear c6b0);(try clear c8);(try clear c24);(try clear c24b0);(try clear c24b1);obtain ⟨kq,An,rfl,HA,HJ12,Ak,Al,HB⟩:=hcut
    cases kq with
    | zero=>exact absurd HA.out (by simp [laws_FnExactHoldsFront.j0])
    | succ kj12 =>
     have H:=HA.out;clear HA;simp only [laws_FnExactHoldsFront.j0] at H
     by_cases c25:An=true
     ·subst c25
      have H1:(some false)=some r:=by rw [if_pos rfl] at H;exact H
      clear H;have H:=H1;clear H1;exact absurd ((Option.some.inj H).trans HT.out) (by decide)
     ·replace c25:=Bool.eq_false_iff.mpr c25;subst c25
      have H1:((laws_toQuantS.f kj12 l0).bind fun Ao=>((laws_eqQuantS.f kj12 A4 Ao).bind fun Ap=>(if Ap=true then ((laws_toNodeS.f kj12 l1).bind fun Ac=>((laws_eqNodeS.f kj12 A2 Ac).bind fun Ad=>(if Ad=true then (some true) else (some false)))) else (some false))))=some r:=by rw [if_neg (show ¬ (false=true) by decide)] at H;exact H
      clear H;have H:=H1;clear H1;replace H:=ob H;obtain ⟨Ao,A260,H⟩:=H;replace H:((laws_eqQuantS.f kj12 A4 Ao).bind fun Ap=>(if Ap=true then ((laws_toNodeS.f kj12 l1).bind fun Ac=>((laws_eqNodeS.f kj12 A2 Ac).bind fun Ad=>(if Ad=true then (some true) else (some false)))) else (some false)))=some r:=H;have A26:=Aside0.mk A260;clear A260;replace H:=ob H;obtain ⟨Ap,A270,H⟩:=H;replace H:(if Ap=true then ((laws_toNodeS.f kj12 l1).bind fun Ac=>((laws_eqNodeS.f kj12 A2 Ac).bind fun Ad=>(if Ad=true then (some true) else (some false)))) else (some false))=some r:=H;have A27:=Aside0.mk A270;clear A270
      by_cases c28:Ap=true
      ·subst c28
       have H1:((laws_toNodeS.f kj12 l1).bind fun Ac=>((laws_eqNodeS.f kj12 A2 Ac).bind fun Ad=>(if Ad=true then (some true) else (some false))))=some r:=by rw [if_pos rfl] at H;exact H
       clear H;have H:=H1;clear H1;replace H:=ob H;obtain ⟨Ac,A290,H⟩:=H;replace H:((laws_eqNodeS.f kj12 A2 Ac).bind fun Ad=>(if Ad=true then (some true) else (some false)))=some r:=H;have A29:=Aside0.mk A290;clear A290;replace H:=ob H;obtain ⟨Ad,A300,H⟩:=H;replace H:(if Ad=true then (some true) else (some false))=some r:=H;have A30:=Aside0.mk A300;clear A300
       by_cases c31:Ad=true
       ·subst c31
        have H1:(some true)=some r:=by rw [if_pos rfl] at H;exact H
        clear H;have H:=H1;clear H1;obtain rfl:=os H;go_wp2_with (first|((with_reducible refine gate_callee (f:=35) rfl ?_);refine goesL_ (some 50) rfl rfl Try.func35 (by kernel_rfl) rfl #[.slice A0 l0.length c0] rfl ml ?_;(with_reducible refine (laws_toQuantS.calls kj12 _ _ l0 Ao _ ?side1 ?side2 A26.out).mono ?_);(case side1=>exact cw (Kd.C_below HR0.out HB.out));(case side2=>exact HC0.out);rintro e w32 ⟨v120,rfl,ho0,hb⟩;refine ⟨_,rfl,?_⟩;replace Al:=Aside0.mk (Kd.R_below (ra Al) hb);have Ag:=Aside0.mk (Kd.R_lower (Kd.R_new' ho0 (Kd.R_lt (ra Ak))) (below_size (tb HB)));replace Ak:=Aside0.mk (Kd.R_elder' (ra Ak) (Kd.R_base ho0) hb);replace HB:=Aside0.mk (below_step (tb HB) hb);(try clear hb);(try clear hb2);(try clear hk);(try clear hi);(try clear ho0);obtain ⟨Ao33,co33,eo33⟩:=Kd.R_slice Ag.out;subst eo33)|((with_reducible refine gate_callee (f:=39) rfl ?_);refine goesL_ (some 51) rfl rfl Try.func39 (by kernel_rfl) rfl #[.slice Au A4.length Av,.slice Ao33 Ao.length co33] rfl ml ?_;(with_reducible refine (laws_eqQuantS.calls kj12 _ _ A4 _ _ Ao true _ ?side1 ?side2 ?side3 ?side4 A27.out).mono ?_);(case side1=>exact cw (Kd.R_reads' Ak.out).2.2);(case side2=>exact (Kd.R_reads' Ak.out).2.1);(case side3=>exact cw (Kd.R_reads' Ag.out).2.2);(case side4=>exact (Kd.R_reads' Ag.out).2.1);rintro e w34 ⟨rfl,hb⟩;refine ⟨_,rfl,?_⟩;replace Ak:=Aside0.mk (Kd.R_below (ra Ak) hb);replace Al:=Aside0.mk (Kd.R_below (ra Al) hb);replace Ag:=Aside0.mk (Kd.R_below (ra Ag) hb);replace HB:=Aside0.mk (below_step (tb HB) hb);(try clear hb);(try clear hb2);(try clear hk);(try clear hi))|((with_reducible refine gate_callee (f:=36) rfl ?_);refine goesL_ (some 55) rfl rfl Try.func36 (by kernel_rfl) rfl #[.slice A1 l1.length c1] rfl ml ?_;(with_reducible refine (laws_toNodeS.calls kj12 _ _ l1 Ac _ ?side1 ?side2 A29.out).mono ?_);(case side1=>exact cw (Kd.C_below HR1.out HB.out));(case side2=>exact HC1.out);rintro e w35 ⟨v124,rfl,ho0,hb⟩;refine ⟨_,rfl,?_⟩;replace Ak:=Aside0.mk (Kd.R_below (ra Ak) hb);replace Ag:=Aside0.mk (Kd.R_below (ra Ag) hb);have Aq:=Aside0.mk (Kd.R_lower (Kd.R_new' ho0 (Kd.R_lt (ra Al))) (below_size (tb HB)));replace Al:=Aside0.mk (Kd.R_elder' (ra Al) (Kd.R_base ho0) hb);replace HB:=Aside0.mk (below_step (tb HB) hb);(try clear hb);(try clear hb2);(try clear hk);(try clear hi);(try clear ho0);obtain ⟨Ao36,co36,eo36⟩:=Kd.R_slice Aq.out;subst eo36)|((with_reducible refine gate_callee (f:=40) rfl ?_);refine goesL_ (some 56) rfl rfl Try.func40 (by kernel_rfl) rfl #[.slice Aw A2.length Ax,.slice Ao36 Ac.length co36] rfl ml ?_;(with_reducible refine (laws_eqNodeS.calls kj12 _ _ A2 _ _ Ac true _ ?side1 ?side2 ?side3 ?side4 A30.out).mono ?_);(case side1=>exact cw (Kd.R_reads' Al.out).2.2);(case side2=>exact (Kd.R_reads' Al.out).2.1);(case side3=>exact cw (Kd.R_reads' Aq.out).2.2);(case side4=>exact (Kd.R_reads' Aq.out).2.1);rintro e w37 ⟨rfl,hb⟩;refine ⟨_,rfl,?_⟩;replace Ak:=Aside0.mk (Kd.R_below (ra Ak) hb);replace Al:=Aside0.mk (Kd.R_below (ra Al) hb);replace Ag:=Aside0.mk (Kd.R_below (ra Ag) hb);replace Aq:=Aside0.mk (Kd.R_below (ra Aq) hb);replace HB:=Aside0.mk (below_step (tb HB) hb);(try clear hb);(try clear hb2);(try clear hk);(try clear hi)));go_ret;exact ⟨er,tb HB⟩
       ·replace c31:=Bool.eq_false_iff.mpr c31;subst c31
        have H1:(some false)=some r:=by rw [if_neg (show ¬ (false=true) by decide)] at H;exact H
        clear H;have H:=H1;clear H1;exact absurd ((Option.some.inj H).trans HT.out) (by decide)
      ·replace c28:=Bool.eq_false_iff.mpr c28;subst c28
       have H1:(some false)=some r:=by rw [if_neg (show ¬ (false=true) by decide)] at H;exact H
       clear H;have H:=H1;clear H1;exact absurd ((Option.some.inj H).trans HT.out) (by decide)
end Go.Proofs.Ythipjoioicmcnaa.G
set_option linter.unusedSimpArgs false
set_option linter.unusedVariables false
namespace Go.Proofs.Ythipjoioicmcnaa.Pure
open Go.RowKit Go.Proofs.YthipjoioicmcnaaW.PrintWords Go.Proofs.YthipjoioicmcnaaW.PrintLast Go.Proofs.YthipjoioicmcnaaW.PrintMore
theorem rounds {R:Type} (L:Nat→Nat→Option R) (n:Nat) (r:R) (step:∀ k i,i < n→L (k + 1) i=L k (i + 1)) (stop:∀ k,L (k + 1) n=some r):∀ k,n < k→L k 0=some r:=by
 have h:∀ d i k,i + d=n→d < k→L k i=some r:=by
  intro d
  induction d with
  | zero =>
   intro i k hi hk
   obtain ⟨k,rfl⟩:∃ m,k=m + 1:=⟨k - 1,by omega⟩
   obtain rfl:i=n:=by omega
   exact stop k
  | succ d ih =>
   intro i k hi hk
   obtain ⟨k,rfl⟩:∃ m,k=m + 1:=⟨k - 1,by omega⟩
   rw [step k i (by omega)]
   exact ih (i + 1) k (by omega) (by omega)
 exact fun k hk=>h n 0 k (by omega) hk
theorem rounds_to {R:Type} (L:Nat→Nat→R) (n:Nat) (p:Nat→Bool) (S E:Nat→R) (step:∀ k i,i < n→(∀ j,j < i→p j=true)→p i=true→L (k + 1) i=L k (i + 1))
  (exit:∀ k i,i < n→(∀ j,j < i→p j=true)→p i=false→L (k + 1) i=E k) (stop:∀ k,(∀ j,j < n→p j=true)→L (k + 1) n=S k) :
  ∀ k,n < k→∃ j,k - n - 1≤j∧j < k∧L k 0=if (List.range n).all p then S j else E j:=by
 have h:∀ d i k,i + d=n→d < k→(∀ j,j < i→p j=true)→∃ j,k - d - 1≤j∧j < k∧L k i=if (List.range n).all p then S j else E j:=by
  intro d
  induction d with
  | zero =>
   intro i k hi hk hp
   obtain ⟨k,rfl⟩:∃ m,k=m + 1:=⟨k - 1,by omega⟩
   obtain rfl:i=n:=by omega
   refine ⟨k,by omega,by omega,?_⟩
   rw [stop k hp,if_pos (List.all_eq_true.2 fun x hx=>hp x (by simpa using hx))]
  | succ d ih =>
   intro i k hi hk hp
   obtain ⟨k,rfl⟩:∃ m,k=m + 1:=⟨k - 1,by omega⟩
   cases hpi:p i with
   | true =>
    obtain ⟨j,h1,h2,h3⟩:=ih (i + 1) k (by omega) (by omega) (fun j hj=>by
     rcases Nat.eq_or_lt_of_le (Nat.lt_succ_iff.1 hj) with e|e
     ·exact e ▸ hpi
     ·exact hp j e)
    exact ⟨j,by omega,by omega,(step k i (by omega) hp hpi).trans h3⟩
   | false =>
    refine ⟨k,by omega,by omega,?_⟩
    rw [exit k i (by omega) hp hpi,if_neg (fun ha=>by have:=List.all_eq_true.1 ha i (by simp;omega);rw [hpi] at this;cases this)]
 exact fun k hk=>h n 0 k (by omega) hk (fun j hj=>absurd hj (by omega))
theorem rounds_pre {R:Type} (L:Nat→Nat→Option R) (n:Nat) (p:Nat→Bool) (r bad:R) (step:∀ k i,i < n→(∀ j,j < i→p j=true)→p i=true→L (k + 1) i=L k (i + 1))
  (exit:∀ k i,i < n→(∀ j,j < i→p j=true)→p i=false→L (k + 1) i=some bad) (stop:∀ k,(∀ j,j < n→p j=true)→L (k + 1) n=some r) :
  ∀ k,n < k→L k 0=some (if (List.range n).all p then r else bad):=by
 intro k hk
 obtain ⟨j,_,_,h⟩:=rounds_to L n p (fun _=>some r) (fun _=>some bad) step exit stop k hk
 rw [h]
 split <;> rfl
theorem w64 {n:Int} (h0 : -9223372036854775808≤n) (h1:n≤9223372036854775807):wrap64 n=n:=by
 unfold wrap64
 omega
theorem w64s (i:Nat) (h:i < 4611686018427387904):wrap64 ((i:Int) + 1)=((i + 1:Nat):Int):=by
 rw [w64 (by omega) (by omega)]
 omega
theorem wfi {a:Int} (h:(Lit.int .i64 a).wf=true) : -9223372036854775808≤a∧a≤9223372036854775807:=by
 have hmin:IntKind.i64.min = -9223372036854775808:=rfl
 have hmax:IntKind.i64.max=9223372036854775807:=rfl
 simp only [Lit.wf,Bool.and_eq_true,decide_eq_true_eq] at h
 omega
theorem u64_of {a:Int} (h0:0≤a) (h1:a≤18446744073709551615):IntKind.u64.wrap a=a:=by
 have h:IntKind.u64.wrap a=a % 18446744073709551616:=by
  simp [IntKind.wrap,IntKind.bits,IntKind.signed]
 rw [h]
 omega
theorem rd_nat (xs:List Int) (i:Nat):rd xs (i:Int)=xs.getD i 0:=by unfold rd;simp
theorem getD_lt {α:Type} (xs:List α) (i:Nat) (d:α) (h:i < xs.length):xs.getD i d=xs[i]:=by
 rw [List.getD_eq_getElem?_getD,List.getElem?_eq_getElem h]
 rfl
theorem bt_nat (s:ByteArray) (i:Nat) (h:i < s.size):bt s (i:Int)=(s[i].toNat:Int):=by
 unfold bt
 simp [h]
theorem toList_data (s:ByteArray):s.toList=s.data.toList:=ByteArray.toList_eq s
end Go.Proofs.Ythipjoioicmcnaa.Pure
set_option linter.unusedSimpArgs false
set_option linter.unusedVariables false
namespace Go.Proofs.Ythipjoioicmcnaa.Pure
open Go.RowKit Go.Proofs.Ythipjoioicmcnaa.G Go.Proofs.YthipjoioicmcnaaW.PrintWords Go.Proofs.YthipjoioicmcnaaW.PrintLast Go.Proofs.YthipjoioicmcnaaW.PrintMore
theorem rounds_all {R:Type} (L:Nat→Nat→Option R) (n:Nat) (p:Nat→Bool) (r bad:R) (step:∀ k i,i < n→p i=true→L (k + 1) i=L k (i + 1)) (exit:∀ k i,i < n→p i=false→L (k + 1) i=some bad)
  (stop:∀ k,L (k + 1) n=some r):∀ k,n < k→L k 0=some (if (List.range n).all p then r else bad) :=
 rounds_pre L n p r bad (fun k i hi _ hp=>step k i hi hp) (fun k i hi _ hp=>exit k i hi hp) (fun k _=>stop k)
def sgn (b:Bool):Int:=if b then 49 else 48
def ones (l:List Bool):ByteArray:=⟨(l.map fun b=>if b then (49:UInt8) else 48).toArray⟩
theorem ones_size (l:List Bool):(ones l).size=l.length:=by
 show (l.map fun b=>if b then (49:UInt8) else 48).toArray.size=_
 simp
theorem bt_ones (l:List Bool) (i:Nat) (h:i < l.length):bt (ones l) (i:Int)=sgn (l.getD i false):=by
 have hs:i < (ones l).size:=by rw [ones_size];exact h
 rw [bt_nat _ i hs,getD_lt l i false h]
 have e:(ones l)[i]=if l[i] then (49:UInt8) else 48:=by
  have h1:(ones l).data.toList[i]? = some (ones l)[i]:=by
   rw [List.getElem?_eq_getElem (by simpa using hs)]
   rfl
  have h2:(ones l).data.toList[i]? = some (if l[i] then (49:UInt8) else 48):=by simp [ones,h]
  exact Option.some.inj (h1.symm.trans h2)
 rw [e]
 unfold sgn
 cases l[i] <;> rfl
theorem data_inj {a b:ByteArray} (h:a.data.toList=b.data.toList):a=b:=by
 cases a;cases b
 simp only [ByteArray.mk.injEq]
 exact Array.toList_inj.1 h
theorem toList_inj {a b:ByteArray}:a.toList=b.toList↔a=b:=by
 rw [toList_data,toList_data]
 exact ⟨data_inj,fun h=>h ▸ rfl⟩
theorem strOfNums_ones (l:List Bool):strOfNums (l.map sgn)=ones l:=by
 unfold strOfNums ones
 congr 2
 rw [List.map_map]
 refine List.map_congr_left fun b _=>?_
 cases b <;> rfl
def tok (N:Int) (s:ByteArray):Bool:=decide (0≤N∧N≤12∧(s.size:Int)=2 ^ N.toNat) && (List.range s.size).all fun (i:Nat)=>bt s (i:Int) == 48 || bt s (i:Int) == 49
theorem tok_form {N:Int} {s:ByteArray} (h:tok N s=true):∃ (n:Nat) (l:List Bool),N=(n:Int)∧n≤12∧l.length=2 ^ n∧s=ones l:=by
  unfold tok at h
  simp only [Bool.and_eq_true,decide_eq_true_eq] at h
  obtain ⟨⟨h0,h1,h2⟩,h3⟩:=h
  obtain ⟨n,rfl⟩:=Int.eq_ofNat_of_zero_le h0
  have h2':s.size=2 ^ n:=by
    rw [Int.toNat_natCast] at h2
    exact_mod_cast h2
  refine ⟨n,(List.range s.size).map fun (i:Nat)=>decide (bt s (i:Int)=49),rfl,by omega,by simp [h2'],?_⟩
  apply data_inj
  apply List.ext_getElem?
  intro i
  rcases Nat.lt_or_ge i s.size with hi|hi
  · have hb:=List.all_eq_true.1 h3 i (by simpa using hi)
    have e:s.data.toList[i]? = some s[i]:=by
      rw [List.getElem?_eq_getElem (by simpa using hi)]
      rfl
    rw [e]
    have hv:=bt_nat s i hi
    simp only [ones,List.map_map,List.getElem?_map,List.getElem?_range hi,Option.map_some,Function.comp]
    congr 1
    simp only [Bool.or_eq_true,beq_iff_eq] at hb
    have hd : ∀ c : UInt8, ((c.toNat : Int) = 48 → c = 48) ∧ ((c.toNat : Int) = 49 → c = 49) := fun c => ⟨fun h => UInt8.toNat_inj.1 (by have : c.toNat = 48 := by omega
                                                                                                                                         rw [this]; rfl), fun h => UInt8.toNat_inj.1 (by have : c.toNat = 49 := by omega
                                                                                                                                                                                         rw [this];rfl)⟩
    rcases hb with hb|hb
    · have hc:=(hd s[i]).1 (hv ▸ hb)
      simp [hb,hc]
    · have hc:=(hd s[i]).2 (hv ▸ hb)
      simp [hb,hc]
  · rw [List.getElem?_eq_none (by simpa using hi),List.getElem?_eq_none (by simp [ones];exact hi)]
theorem tok_ones {n:Nat} {l:List Bool} (hn:n≤12) (hl:l.length=2 ^ n):tok (n:Int) (ones l)=true:=by
 unfold tok
 rw [Bool.and_eq_true]
 refine ⟨decide_eq_true ⟨by omega,by omega,?_⟩,List.all_eq_true.2 fun i hi=>?_⟩
 ·rw [ones_size,hl,Int.toNat_natCast]
  norm_cast
 ·have hi':i < l.length:=by rw [ones_size] at hi;simpa using hi
  rw [bt_ones l i hi']
  unfold sgn
  cases l.getD i false <;> rfl
theorem pow12 {n:Nat} (hn:n≤12):2 ^ n≤4096:=Nat.pow_le_pow_right (by decide) hn
theorem pow62 {n:Nat} (hn:n≤61):(2:Int) ^ n≤2305843009213693952:=by
 have h:2 ^ n≤2 ^ 61:=Nat.pow_le_pow_right (by decide) hn
 have h2:((2 ^ n:Nat):Int)≤((2 ^ 61:Nat):Int):=by exact_mod_cast h
 have h3:((2 ^ n:Nat):Int)=(2:Int) ^ n:=by norm_cast
 omega
theorem pow_pos_ (n:Nat):(1:Int)≤2 ^ n:=by
 have h:1≤2 ^ n:=Nat.one_le_two_pow
 have h2:((1:Nat):Int)≤((2 ^ n:Nat):Int):=by exact_mod_cast h
 have h3:((2 ^ n:Nat):Int)=(2:Int) ^ n:=by norm_cast
 omega
theorem pow2_eq (n:Nat) (hn:n≤60):∀ k,n < k→spec_l01Pow2.f k (n:Int)=some ((2:Int) ^ n):=by
 intro k hk
 unfold spec_l01Pow2.f
 refine rounds (fun k i=>spec_l01Pow2.l0 k (n:Int) ((2:Int) ^ i) (i:Int)) n _ ?_ ?_ k hk
 ·intro k i hi
  simp only [spec_l01Pow2.l0]
  have h1:=pow62 (n:=i + 1) (by omega)
  have h2:=pow_pos_ i
  rw [if_pos (by omega),w64s i (by omega),show (2:Int) * 2 ^ i=2 ^ (i + 1) from by rw [Int.pow_succ];omega,w64 (by have:=pow_pos_ (i + 1);omega) (by omega)]
 ·intro k
  simp only [spec_l01Pow2.l0]
  rw [if_neg (by omega)]
theorem shl_eq (n:Nat) (hn:n≤60):shl .i64 1 (n:Int)=(2:Int) ^ n:=by
 unfold shl
 rw [Int.toNat_natCast,show min n IntKind.i64.bits=n from by simp [IntKind.bits];omega,Int.one_mul,IntKind.wrap_i64]
 have h1:=pow62 (n:=n) (by omega)
 have h2:=pow_pos_ n
 omega
theorem impl_TableOk_eq (N:Int) (s:ByteArray) (hs:s.size≤1099511627776):∀ k,s.size + 20 < k→impl_TableOk.f k N s=some (tok N s):=by
 intro k hk
 obtain ⟨k,rfl⟩:∃ m,k=m + 1:=⟨k - 1,by omega⟩
 unfold impl_TableOk.f impl_within.f
 by_cases h0:N ≥ 0
 ·rw [if_pos h0]
  by_cases h1:N≤12
  ·obtain ⟨n,rfl⟩:=Int.eq_ofNat_of_zero_le h0
   simp only [h1,decide_true,Option.bind_some,if_true]
   rw [u64_of (by omega) (by omega),if_pos (by omega),shl_eq n (by omega)]
   simp only [impl_TableOk.j0]
   by_cases h2:(s.size:Int)=2 ^ n
   ·rw [if_neg (by simp [h2])]
    have h:=rounds_all (fun k i=>impl_TableOk.l0 k (s.size:Int) (i:Int) (n:Int) s) s.size (fun i=>bt s i == 48 || bt s i == 49) true false ?_ ?_ ?_ k (by omega)
    ·refine h.trans ?_
     unfold tok
     rw [decide_eq_true (⟨h0,h1,by rw [Int.toNat_natCast];exact h2⟩:0≤(n:Int)∧(n:Int)≤12∧(s.size:Int)=2 ^ (n:Int).toNat),Bool.true_and]
     congr 1
     split <;> simp_all
    ·intro k i hi hp
     simp only [impl_TableOk.l0]
     simp only [Bool.or_eq_true,beq_iff_eq] at hp
     rw [if_pos (by omega),if_pos (by omega),if_pos (by omega),w64s i (by omega)]
     rcases hp with hp|hp
     ·rw [if_pos hp]
     ·rw [if_neg (by omega),if_pos hp]
    ·intro k i hi hp
     simp only [impl_TableOk.l0]
     simp only [Bool.or_eq_false_iff,beq_eq_false_iff_ne] at hp
     rw [if_pos (by omega),if_pos (by omega),if_pos (by omega),if_neg hp.1,if_neg hp.2]
    ·intro k
     simp only [impl_TableOk.l0]
     rw [if_neg (by omega)]
   ·rw [if_pos (by simpa using h2)]
    unfold tok
    rw [decide_eq_false (by rintro ⟨_,_,h⟩;rw [Int.toNat_natCast] at h;exact h2 h),Bool.false_and]
  ·simp only [h1,decide_false,Option.bind_some]
   simp only [Bool.false_eq_true,if_false,impl_TableOk.j0,if_true]
   unfold tok
   rw [decide_eq_false (by omega),Bool.false_and]
 ·rw [if_neg h0]
  simp only [Option.bind_some,Bool.false_eq_true,if_false,impl_TableOk.j0,if_true]
  unfold tok
  rw [decide_eq_false (by omega),Bool.false_and]
def flags (s:ByteArray):List Bool:=s.data.toList.map fun c=>c == 49
theorem flags_ones (l:List Bool):flags (ones l)=l:=by
 unfold flags
 simp only [ones,List.map_map]
 exact (List.map_congr_left (fun b _=>by cases b <;> rfl)).trans (List.map_id l)
theorem wraps_i64 (n:Int) (h₀:0≤n) (h₁:n < 2 ^ 62):IntKind.i64.wrap n=n:=by rw [IntKind.wrap_i64];omega
theorem and_i64 (a b:Nat) (ha:a < 2 ^ 62) (hb:b < 2 ^ 62):Go.bits .and .i64 (a:Int) (b:Int)=((a &&& b:Nat):Int):=(bits_nat .i64 62 (by decide) wraps_i64 a b ha hb).1
theorem or_i64 (a b:Nat) (ha:a < 2 ^ 62) (hb:b < 2 ^ 62):Go.bits .or .i64 (a:Int) (b:Int)=((a ||| b:Nat):Int):=(bits_nat .i64 62 (by decide) wraps_i64 a b ha hb).2
theorem pow_cast (j:Nat):(2:Int) ^ j=((2 ^ j:Nat):Int):=by norm_cast
end Go.Proofs.Ythipjoioicmcnaa.Pure
set_option linter.unusedSimpArgs false
set_option linter.unusedVariables false
namespace Go.Proofs.Ythipjoioicmcnaa.Pure
open Go.RowKit Go.Proofs.YthipjoioicmcnaaW.PrintWords Go.Proofs.YthipjoioicmcnaaW.PrintLast Go.Proofs.YthipjoioicmcnaaW.PrintMore
theorem ev_some {α:Type} (r:α):Ev (fun _=>some r) r:=⟨0,fun _ _=>rfl⟩
theorem ev_ge {α:Type} {g:Nat→Option α} {r:α} (n:Nat) (h:∀ k,n < k→g k=some r):Ev g r:=⟨n + 1,fun k hk=>h k (by omega)⟩
theorem ev_step {α:Type} {g f:Nat→Option α} {r:α} (h:∀ k,g (k + 1)=f k) (e:Ev f r):Ev g r:=by
 obtain ⟨K,e⟩:=e
 refine ⟨K + 1,fun k hk=>?_⟩
 obtain ⟨m,rfl⟩:∃ m,k=m + 1:=⟨k - 1,by omega⟩
 rw [h m]
 exact e m (by omega)
theorem ev_succ {α:Type} {g:Nat→Option α} {r:α} (e:Ev (fun k=>g (k + 1)) r):Ev g r:=ev_step (fun _=>rfl) e
theorem ev_eq {α:Type} {g f:Nat→Option α} {r:α} (h:∀ k,g k=f k) (e:Ev f r):Ev g r:=by
 obtain ⟨K,e⟩:=e
 exact ⟨K,fun k hk=>(h k).trans (e k hk)⟩
theorem ev_bind {α β:Type} {g:Nat→Option α} {f:Nat→α→Option β} {a:α} {r:β} (h:Ev g a) (e:Ev (fun n=>f n a) r):Ev (fun n=>(g n).bind (f n)) r:=by
 obtain ⟨K,h⟩:=h
 obtain ⟨M,e⟩:=e
 refine ⟨K + M,fun n hn=>?_⟩
 show (g n).bind (f n)=some r
 rw [h n (by omega)]
 exact e n (by omega)
theorem ev_rounds {α:Type} {g:Nat→Option α} {r:α} (h:Ev g r):∃ k,g k=some r:=by
 obtain ⟨K,h⟩:=h
 exact ⟨K,h K (Nat.le_refl _)⟩
theorem ev_one {α:Type} {g:Nat→Option α} {a b:α} (h:Ev g a) (e:Ev g b):a=b:=by
 obtain ⟨K,h⟩:=h
 obtain ⟨M,e⟩:=e
 exact Option.some.inj ((h (K + M) (by omega)).symm.trans (e (K + M) (by omega)))
theorem ev_loop {α:Type} (L:Nat→Nat→Option α) (n:Nat) (r:α) (step:∀ i,i < n→Ev (fun k=>L k (i + 1)) r→Ev (fun k=>L k i) r) (stop:Ev (fun k=>L k n) r):∀ i,i≤n→Ev (fun k=>L k i) r:=by
 have h:∀ d i,i + d=n→Ev (fun k=>L k i) r:=by
  intro d
  induction d with
  | zero =>
   intro i hi
   obtain rfl:i=n:=by omega
   exact stop
  | succ d ih=>intro i hi;exact step i (by omega) (ih (i + 1) (by omega))
 exact fun i hi=>h (n - i) i (by omega)
end Go.Proofs.Ythipjoioicmcnaa.Pure
set_option linter.unusedSimpArgs false
set_option linter.unusedVariables false
namespace Go.Proofs.Ythipjoioicmcnaa.Pure
open Go.RowKit Go.Proofs.Ythipjoioicmcnaa.G Go.Proofs.YthipjoioicmcnaaW.PrintWords Go.Proofs.YthipjoioicmcnaaW.PrintLast Go.Proofs.YthipjoioicmcnaaW.PrintMore
theorem shr_nat (z j:Nat) (hj:j≤60):shr .i64 (z:Int) (j:Int)=((z / 2 ^ j:Nat):Int):=by
 unfold shr
 rw [Int.toNat_natCast,show min j IntKind.i64.bits=j from by simp [IntKind.bits];omega]
 norm_cast
theorem shl_nat (z j:Nat) (hj:j≤60) (h:z * 2 ^ j < 4611686018427387904):shl .i64 (z:Int) (j:Int)=((z * 2 ^ j:Nat):Int):=by
 unfold shl
 rw [Int.toNat_natCast,show min j IntKind.i64.bits=j from by simp [IntKind.bits];omega,pow_cast,← Int.natCast_mul,wraps_i64 _ (by omega) (by omega)]
theorem apPow (w:Nat) (h8:w≤8):1≤(2:Int) ^ w∧(2:Int) ^ w≤256:=by
 have:w=0∨w=1∨w=2∨w=3∨w=4∨w=5∨w=6∨w=7∨w=8:=by omega
 rcases this with rfl|rfl|rfl|rfl|rfl|rfl|rfl|rfl|rfl <;> decide
theorem apU (w:Nat) (h8:w≤8):IntKind.u64.wrap (w:Int)=(w:Int):=u64_of (by omega) (by omega)
theorem apMask (w:Nat) (h8:w≤8):wrap64 (shl .i64 1 (w:Int) - 1)=(2:Int) ^ w - 1:=by
 rw [shl_eq w (by omega)]
 have:=apPow w h8
 unfold wrap64
 omega
theorem apAnd (w:Nat) (h8:w≤8) (x:Int):Go.bits .and .i64 x ((2:Int) ^ w - 1)=x % (2:Int) ^ w:=by
 have hP:((2:Int) ^ w - 1)=((2 ^ w - 1:Nat):Int):=by
  have:1≤2 ^ w:=Nat.one_le_two_pow
  push_cast [this]
  rfl
 have hlt:2 ^ w - 1 < 2 ^ 64:=by
  have h1:2 ^ w≤2 ^ 8:=Nat.pow_le_pow_right (by decide) h8
  have h2:(2:Nat) ^ 8 < 2 ^ 64:=by decide
  omega
 have hx:((BitVec.ofInt 64 x).toNat &&& (2 ^ w - 1))=(x % (2:Int) ^ w).toNat:=by
  rw [Nat.and_two_pow_sub_one_eq_mod,BitVec.toNat_ofInt]
  have hd:((2 ^ w:Nat):Int) ∣ ((2 ^ 64:Nat):Int):=by exact_mod_cast Nat.pow_dvd_pow 2 (by omega)
  have h0:0≤x % ((2 ^ 64:Nat):Int):=Int.emod_nonneg _ (by decide)
  have e:(((x % ((2 ^ 64:Nat):Int)).toNat % 2 ^ w:Nat):Int)=x % (2:Int) ^ w:=by
   rw [Int.natCast_emod,Int.toNat_of_nonneg h0,Int.emod_emod_of_dvd _ hd]
   push_cast
   rfl
  rw [← e,Int.toNat_natCast]
 have hn:0≤x % (2:Int) ^ w:=Int.emod_nonneg _ (by have:=apPow w h8;omega)
 have hl:x % (2:Int) ^ w < (2:Int) ^ w:=Int.emod_lt_of_pos _ (by have:=apPow w h8;omega)
 have hb:(BitVec.ofInt 64 ((2 ^ w - 1:Nat):Int)).toNat=2 ^ w - 1:=by
  rw [BitVec.ofInt_natCast,BitVec.toNat_ofNat,Nat.mod_eq_of_lt hlt]
 rw [hP]
 unfold Go.bits
 show IntKind.i64.wrap (((BitVec.ofInt 64 x) &&& (BitVec.ofInt 64 ((2 ^ w - 1:Nat):Int))).toNat:Int)=_
 rw [BitVec.toNat_and,hb,hx,Int.toNat_of_nonneg hn]
 exact wraps_i64 _ hn (by have:=apPow w h8;omega)
theorem apCut (w:Nat) (h8:w≤8) (x:Int):impl_cut.f (w:Int) x=some (x % (2:Int) ^ w):=by
 unfold impl_cut.f
 rw [apU w h8,if_pos (by omega),apMask w h8,apAnd w h8]
theorem apPow2 (w:Nat) (h8:w≤8):Ev (fun k=>spec_l01Pow2.f k (w:Int)) ((2:Int) ^ w):=ev_ge w (fun k hk=>pow2_eq w (by omega) k hk)
def apOk (w:Nat) (a:Int):Bool:=decide (0≤a∧a < (2:Int) ^ w)
theorem apWordI (w:Nat) (h1:1≤w) (h8:w≤8) (a:Int):impl_WordOk.f (w:Int) a=some (apOk w a):=by
 have hp:=apPow w h8
 unfold impl_WordOk.f impl_isWidth.f impl_within.f
 rw [if_pos (show (w:Int) ≥ 1 by omega)]
 simp only [Option.bind_some]
 rw [show decide ((w:Int)≤8)=true from decide_eq_true (by omega),if_pos rfl,apU w h8,if_pos (by omega),apMask w h8]
 unfold apOk
 by_cases h:a ≥ 0
 ·rw [if_pos h]
  simp only [Option.bind_some]
  congr 1
  rw [decide_eq_decide]
  omega
 ·rw [if_neg h]
  simp only [Option.bind_some]
  congr 1
  exact (decide_eq_false (by omega)).symm
theorem apIn (x a b:Int):spec_l01In.f x a b=some (decide (a≤x∧x≤b)):=by
 unfold spec_l01In.f
 by_cases h:x ≥ a
 ·rw [if_pos h]
  congr 1
  rw [decide_eq_decide]
  omega
 ·rw [if_neg h]
  congr 1
  exact (decide_eq_false (by omega)).symm
theorem apWithin (x a b:Int):impl_within.f x a b=some (decide (a≤x∧x≤b)):=by
 unfold impl_within.f
 by_cases h:x ≥ a
 ·rw [if_pos h]
  congr 1
  rw [decide_eq_decide]
  omega
 ·rw [if_neg h]
  congr 1
  exact (decide_eq_false (by omega)).symm
theorem apWordS (w:Nat) (h1:1≤w) (h8:w≤8) (a:Int):Ev (fun k=>spec_WordOk.f k (w:Int) a) (apOk w a):=by
 have hp:=apPow w h8
 refine ev_eq (f:=fun k=>(spec_l01Pow2.f k (w:Int)).bind fun t102=>((spec_l01In.f a 0 (wrap64 (t102 - 1))).bind fun t103=>(some t103))) (fun k=>?_) ?_
 ·unfold spec_WordOk.f
  rw [apIn,show decide ((1:Int)≤(w:Int)∧(w:Int)≤8)=true from decide_eq_true (by omega)]
  simp only [Option.bind_some]
  rw [if_pos trivial]
 ·refine ev_bind (apPow2 w h8) ?_
  rw [apIn]
  simp only [Option.bind_some]
  rw [show decide (0≤a∧a≤wrap64 ((2:Int) ^ w - 1))=apOk w a from by
   unfold apOk wrap64
   rw [decide_eq_decide]
   omega]
  exact ev_some _
theorem apTwoI (w:Nat) (h1:1≤w) (h8:w≤8) (a b:Int):impl_two.f (w:Int) a b=some (apOk w a && apOk w b):=by
 unfold impl_two.f
 rw [apWordI w h1 h8,apWordI w h1 h8]
 simp only [Option.bind_some]
 cases apOk w a <;> simp
theorem apTwoS (w:Nat) (h1:1≤w) (h8:w≤8) (a b:Int):Ev (fun k=>spec_l01Two.f k (w:Int) a b) (apOk w a && apOk w b):=by
 refine ev_bind (f:=fun k t101=>if t101=true then ((spec_WordOk.f k (w:Int) b).bind fun t102=>(some t102)) else (some false)) (apWordS w h1 h8 a) ?_
 cases apOk w a with
 | false=>exact ev_some _
 | true =>
  simp only [if_true,Bool.true_and]
  exact ev_bind (f:=fun _ t=>some t) (apWordS w h1 h8 b) (ev_some _)
def Same (x:Option Int) (y:Nat→Option Int):Prop:=∃ v,x=some v∧Ev y v
theorem apBoth (w:Nat) (h1:1≤w) (h8:w≤8) (a b:Int) (I:Option Int) (S:Nat→Option Int) (z:Int) (h:0≤a→a < (2:Int) ^ w→0≤b→b < (2:Int) ^ w→Same I S) :
  Same ((impl_two.f (w:Int) a b).bind fun t=>if t=true then I else some z) (fun k=>(spec_l01Two.f k (w:Int) a b).bind fun t=>if t=true then S k else some z):=by
 by_cases hok:(apOk w a && apOk w b)=true
 ·have hh:=hok
  simp only [Bool.and_eq_true,apOk,decide_eq_true_eq] at hh
  obtain ⟨v,e1,e2⟩:=h hh.1.1 hh.1.2 hh.2.1 hh.2.2
  refine ⟨v,?_,?_⟩
  ·rw [apTwoI w h1 h8,hok]
   exact e1
  ·refine ev_bind (f:=fun k t=>if t=true then S k else some z) (apTwoS w h1 h8 a b) ?_
   rw [hok]
   exact e2
 ·have h':(apOk w a && apOk w b)=false:=by simpa using hok
  refine ⟨z,?_,?_⟩
  ·rw [apTwoI w h1 h8,h']
   rfl
  ·refine ev_bind (f:=fun k t=>if t=true then S k else some z) (apTwoS w h1 h8 a b) ?_
   rw [h']
   exact ev_some _
theorem apSolo (w:Nat) (h1:1≤w) (h8:w≤8) (a:Int) (I:Option Int) (S:Nat→Option Int) (z:Int) (h:0≤a→a < (2:Int) ^ w→Same I S) :
  Same ((impl_WordOk.f (w:Int) a).bind fun t=>if t=true then I else some z) (fun k=>(spec_WordOk.f k (w:Int) a).bind fun t=>if t=true then S k else some z):=by
 by_cases hok:apOk w a=true
 ·have hh:=hok
  simp only [apOk,decide_eq_true_eq] at hh
  obtain ⟨v,e1,e2⟩:=h hh.1 hh.2
  refine ⟨v,?_,?_⟩
  ·rw [apWordI w h1 h8,hok]
   exact e1
  ·refine ev_bind (f:=fun k t=>if t=true then S k else some z) (apWordS w h1 h8 a) ?_
   rw [hok]
   exact e2
 ·have h':apOk w a=false:=by simpa using hok
  refine ⟨z,?_,?_⟩
  ·rw [apWordI w h1 h8,h']
   rfl
  ·refine ev_bind (f:=fun k t=>if t=true then S k else some z) (apWordS w h1 h8 a) ?_
   rw [h']
   exact ev_some _
theorem apAdd (w:Nat) (h1:1≤w) (h8:w≤8) (a b:Int):Same (impl_Add.f (w:Int) a b) (fun k=>spec_Add.f k (w:Int) a b):=by
 have hp:=apPow w h8
 refine apBoth w h1 h8 a b _ (fun k=>(spec_l01Pow2.f k (w:Int)).bind fun t102=>(if t102=0 then (none) else (some (Int.tmod (wrap64 (a + b)) t102)))) 0 (fun a0 a1 b0 b1=>⟨(a + b) % (2:Int) ^ w,?_,?_⟩)
 ·rw [apCut w h8,show wrap64 (a + b)=a + b from by unfold wrap64;omega]
  rfl
 ·refine ev_bind (f:=fun _ t102=>if t102=0 then (none) else (some (Int.tmod (wrap64 (a + b)) t102))) (apPow2 w h8) ?_
  rw [if_neg (by omega),show wrap64 (a + b)=a + b from by unfold wrap64;omega,Int.tmod_eq_emod_of_nonneg (by omega)]
  exact ev_some _
theorem apSub (w:Nat) (h1:1≤w) (h8:w≤8) (a b:Int):Same (impl_Sub.f (w:Int) a b) (fun k=>spec_Sub.f k (w:Int) a b):=by
 have hp:=apPow w h8
 refine apBoth w h1 h8 a b _ (fun k=>(spec_l01Pow2.f k (w:Int)).bind fun t102=>((spec_l01Pow2.f k (w:Int)).bind fun t103=>(if t103=0 then (none) else (some (Int.tmod (wrap64 ((wrap64 (a + t102)) - b)) t103))))) 0 (fun a0 a1 b0 b1=>⟨(a - b) % (2:Int) ^ w,?_,?_⟩)
 ·rw [apCut w h8,show wrap64 (a - b)=a - b from by unfold wrap64;omega]
  rfl
 ·refine ev_bind (f:=fun k t102=>(spec_l01Pow2.f k (w:Int)).bind fun t103=>(if t103=0 then (none) else (some (Int.tmod (wrap64 ((wrap64 (a + t102)) - b)) t103)))) (apPow2 w h8) ?_
  refine ev_bind (f:=fun _ t103=>if t103=0 then (none) else (some (Int.tmod (wrap64 ((wrap64 (a + (2:Int) ^ w)) - b)) t103))) (apPow2 w h8) ?_
  rw [if_neg (by omega),show wrap64 (wrap64 (a + (2:Int) ^ w) - b)=(a - b) + (2:Int) ^ w from by unfold wrap64;omega,Int.tmod_eq_emod_of_nonneg (by omega),Int.add_emod_right]
  exact ev_some _
theorem apMul (w:Nat) (h1:1≤w) (h8:w≤8) (a b:Int):Same (impl_Mul.f (w:Int) a b) (fun k=>spec_Mul.f k (w:Int) a b):=by
 have hp:=apPow w h8
 refine apBoth w h1 h8 a b _ (fun k=>(spec_l01Pow2.f k (w:Int)).bind fun t102=>(if t102=0 then (none) else (some (Int.tmod (wrap64 (a * b)) t102)))) 0 (fun a0 a1 b0 b1=>⟨(a * b) % (2:Int) ^ w,?_,?_⟩)
 ·have hm:0≤a * b:=Int.mul_nonneg a0 b0
  have hM:a * b≤256 * 256:=Int.mul_le_mul (by omega) (by omega) b0 (by omega)
  rw [apCut w h8,show wrap64 (a * b)=a * b from by unfold wrap64;omega]
  rfl
 ·have hm:0≤a * b:=Int.mul_nonneg a0 b0
  have hM:a * b≤256 * 256:=Int.mul_le_mul (by omega) (by omega) b0 (by omega)
  refine ev_bind (f:=fun _ t102=>if t102=0 then (none) else (some (Int.tmod (wrap64 (a * b)) t102))) (apPow2 w h8) ?_
  rw [if_neg (by omega),show wrap64 (a * b)=a * b from by unfold wrap64;omega,Int.tmod_eq_emod_of_nonneg hm]
  exact ev_some _
theorem apDiv (w:Nat) (h1:1≤w) (h8:w≤8) (a b:Int):Same (impl_Div.f (w:Int) a b) (fun k=>spec_Div.f k (w:Int) a b):=by
 have hp:=apPow w h8
 refine apBoth w h1 h8 a b _ (fun k=>if b=0 then ((spec_l01Pow2.f k (w:Int)).bind fun t102=>(some (wrap64 (t102 - 1)))) else (some (wrap64 (Int.tdiv a b)))) 0 (fun a0 a1 b0 b1=>?_)
 by_cases hb:b=0
 ·rw [if_pos hb]
  simp only [if_pos hb]
  rw [apU w h8,if_pos (by omega),apMask w h8]
  refine ⟨_,rfl,ev_bind (f:=fun _ t102=>some (wrap64 (t102 - 1))) (apPow2 w h8) ?_⟩
  rw [show wrap64 ((2:Int) ^ w - 1)=(2:Int) ^ w - 1 from by unfold wrap64;omega]
  exact ev_some _
 ·rw [if_neg hb]
  simp only [if_neg hb]
  exact ⟨_,rfl,ev_some _⟩
theorem apRem (w:Nat) (h1:1≤w) (h8:w≤8) (a b:Int):Same (impl_Rem.f (w:Int) a b) (fun k=>spec_Rem.f k (w:Int) a b):=by
 refine apBoth w h1 h8 a b _ (fun k=>if b=0 then some a else (some (Int.tmod a b))) 0 (fun a0 a1 b0 b1=>?_)
 by_cases hb:b=0
 ·rw [if_pos hb]
  try simp only [if_pos hb]
  exact ⟨_,rfl,ev_some _⟩
 ·rw [if_neg hb]
  try simp only [if_neg hb]
  exact ⟨_,rfl,ev_some _⟩
theorem apFlip (w:Nat) (h1:1≤w) (h8:w≤8) (a:Int):Same (impl_Flip.f (w:Int) a) (fun k=>spec_Flip.f k (w:Int) a):=by
 have hp:=apPow w h8
 refine apSolo w h1 h8 a _ (fun k=>(spec_l01Pow2.f k (w:Int)).bind fun t102=>(some (wrap64 ((wrap64 (t102 - 1)) - a)))) 0 (fun a0 a1=>?_)
 rw [apU w h8,if_pos (by omega),apMask w h8]
 refine ⟨_,rfl,ev_bind (f:=fun _ t102=>some (wrap64 ((wrap64 (t102 - 1)) - a))) (apPow2 w h8) ?_⟩
 rw [show wrap64 ((2:Int) ^ w - 1)=(2:Int) ^ w - 1 from by unfold wrap64;omega]
 exact ev_some _
theorem apShr (w:Nat) (h1:1≤w) (h8:w≤8) (a b:Int):Same (impl_Shr.f (w:Int) a b) (fun k=>spec_Shr.f k (w:Int) a b):=by
 have hp:=apPow w h8
 refine apBoth w h1 h8 a b _ (fun k=>if b ≥ (w:Int) then some 0 else ((spec_l01Pow2.f k b).bind fun t102=>(if t102=0 then (none) else (some (wrap64 (Int.tdiv a t102)))))) 0 (fun a0 a1 b0 b1=>?_)
 by_cases hb:b ≥ (w:Int)
 ·rw [if_pos hb]
  simp only [if_pos hb]
  exact ⟨_,rfl,ev_some _⟩
 ·rw [if_neg hb]
  simp only [if_neg hb]
  obtain ⟨j,rfl⟩:=Int.eq_ofNat_of_zero_le b0
  obtain ⟨x,rfl⟩:=Int.eq_ofNat_of_zero_le a0
  have hj:j≤8:=by omega
  have hq:=apPow j hj
  rw [apU j hj,if_pos (by omega),shr_nat x j (by omega)]
  refine ⟨_,rfl,ev_bind (f:=fun _ t102=>if t102=0 then (none) else (some (wrap64 (Int.tdiv (x:Int) t102)))) (apPow2 j hj) ?_⟩
  rw [if_neg (by omega),Int.tdiv_eq_ediv_of_nonneg (by omega)]
  have e:(x:Int) / (2:Int) ^ j=((x / 2 ^ j:Nat):Int):=by push_cast;rfl
  have hle:x / 2 ^ j≤x:=Nat.div_le_self _ _
  rw [e]
  generalize x / 2 ^ j=q at hle ⊢
  rw [show wrap64 (q:Int)=(q:Int) from by unfold wrap64;omega]
  exact ev_some _
theorem apShl (w:Nat) (h1:1≤w) (h8:w≤8) (a b:Int):Same (impl_Shl.f (w:Int) a b) (fun k=>spec_Shl.f k (w:Int) a b):=by
 have hp:=apPow w h8
 have key:=apBoth w h1 h8 a b (if b ≥ (w:Int) then (some 0) else (if 0≤(IntKind.u64.wrap b) then ((impl_cut.f (w:Int) (shl .i64 a (IntKind.u64.wrap b))).bind fun t102=>(some t102)) else (none))) (fun k=>spec_Shl.j0 k (w:Int) a b (decide (b ≥ (w:Int)))) 0 (fun a0 a1 b0 b1=>by
  by_cases hb:b ≥ (w:Int)
  ·rw [if_pos hb]
   refine ⟨0,rfl,ev_succ ?_⟩
   simp only [spec_Shl.j0,decide_eq_true hb,if_true]
   exact ev_some _
  ·rw [if_neg hb]
   obtain ⟨j,rfl⟩:=Int.eq_ofNat_of_zero_le b0
   obtain ⟨x,rfl⟩:=Int.eq_ofNat_of_zero_le a0
   have hj:j≤8:=by omega
   have hq:=apPow j hj
   have hx:x≤255:=by omega
   have hj2:2 ^ j≤256:=Nat.le_trans (Nat.pow_le_pow_right (by decide) hj) (by decide)
   have hm:x * 2 ^ j≤255 * 256:=Nat.mul_le_mul hx hj2
   rw [apU j hj,if_pos (by omega),shl_nat x j (by omega) (by omega),apCut w h8]
   refine ⟨_,rfl,ev_succ ?_⟩
   simp only [spec_Shl.j0,decide_eq_false hb,Bool.false_eq_true,if_false]
   refine ev_bind (f:=fun k t102=>(spec_l01Pow2.f k (w:Int)).bind fun t103=>(if t103=0 then (none) else (some (Int.tmod (wrap64 ((x:Int) * t102)) t103)))) (apPow2 j hj) ?_
   refine ev_bind (f:=fun _ t103=>if t103=0 then (none) else (some (Int.tmod (wrap64 ((x:Int) * (2:Int) ^ j)) t103))) (apPow2 w h8) ?_
   have e:(x:Int) * (2:Int) ^ j=((x * 2 ^ j:Nat):Int):=by push_cast;rfl
   rw [if_neg (by omega),e,show wrap64 ((x * 2 ^ j:Nat):Int)=((x * 2 ^ j:Nat):Int) from by unfold wrap64;omega,Int.tmod_eq_emod_of_nonneg (by omega)]
   exact ev_some _)
 obtain ⟨v,e1,e2⟩:=key
 refine ⟨v,e1,?_⟩
 obtain ⟨K,e2⟩:=e2
 refine ⟨K + 1,fun k hk=>?_⟩
 have h:=e2 k (by omega)
 obtain ⟨m,rfl⟩:∃ m,k=m + 1:=⟨k - 1,by omega⟩
 have hz:spec_Shl.j0 (m + 1) (w:Int) a b true=some 0:=by simp [spec_Shl.j0]
 show ((spec_l01Two.f (m + 1) (w:Int) a b).bind fun t101=>if t101=true then spec_Shl.j0 (m + 1) (w:Int) a b (decide (b ≥ (w:Int))) else spec_Shl.j0 (m + 1) (w:Int) a b true)=some v
 rw [hz]
 exact h
theorem apBit (t:Bool):impl_bit.f t=spec_l01Bool.f t:=rfl
theorem apBitS (t:Bool):∃ v,impl_bit.f t=some v:=by cases t <;> exact ⟨_,rfl⟩
theorem apSigned (w:Nat) (h1:1≤w) (h8:w≤8) (a:Int):Same (impl_Signed.f (w:Int) a) (fun k=>spec_Signed.f k (w:Int) a):=by
 have hp:=apPow w h8
 refine apSolo w h1 h8 a _ (fun k=>(spec_l01Pow2.f k (wrap64 ((w:Int) - 1))).bind fun t102=>(if a ≥ t102 then ((spec_l01Pow2.f k (w:Int)).bind fun t103=>(some (wrap64 (a - t103)))) else (some a))) 0 (fun a0 a1=>?_)
 obtain ⟨j,rfl⟩:∃ j,w=j + 1:=⟨w - 1,by omega⟩
 have hj:j≤8:=by omega
 rw [show wrap64 (((j + 1:Nat):Int) - 1)=(j:Int) from by unfold wrap64;omega,apU j hj,apU (j + 1) h8,if_pos (by omega),shl_eq j (by omega),shl_eq (j + 1) (by omega)]
 by_cases hc:a ≥ (2:Int) ^ j
 ·rw [if_pos hc,if_pos (by omega)]
  refine ⟨_,rfl,ev_bind (f:=fun k t102=>if a ≥ t102 then ((spec_l01Pow2.f k ((j + 1:Nat):Int)).bind fun t103=>(some (wrap64 (a - t103)))) else (some a)) (apPow2 j hj) ?_⟩
  simp only [if_pos hc]
  exact ev_bind (f:=fun _ t103=>some (wrap64 (a - t103))) (apPow2 (j + 1) h8) (ev_some _)
 ·rw [if_neg hc]
  refine ⟨_,rfl,ev_bind (f:=fun k t102=>if a ≥ t102 then ((spec_l01Pow2.f k ((j + 1:Nat):Int)).bind fun t103=>(some (wrap64 (a - t103)))) else (some a)) (apPow2 j hj) ?_⟩
  simp only [if_neg hc]
  exact ev_some _
theorem apLess (w:Nat) (h1:1≤w) (h8:w≤8) (a b:Int):Same (impl_Less.f (w:Int) a b) (fun k=>spec_Less.f k (w:Int) a b):=by
 refine apBoth w h1 h8 a b ((impl_bit.f (decide (a < b))).bind fun t102=>(some t102)) (fun k=>(spec_l01Bool.f (decide (a < b))).bind fun t102=>(some t102)) 0 (fun a0 a1 b0 b1=>?_)
 obtain ⟨v,hv⟩:=apBitS (decide (a < b))
 have hs:=(apBit (decide (a < b))).symm.trans hv
 exact ⟨v,by rw [hv];rfl,by rw [hs];exact ev_some _⟩
theorem apLessSigned (w:Nat) (h1:1≤w) (h8:w≤8) (a b:Int):Same (impl_LessSigned.f (w:Int) a b) (fun k=>spec_LessSigned.f k (w:Int) a b):=by
 refine apBoth w h1 h8 a b ((impl_Signed.f (w:Int) a).bind fun t102=>((impl_Signed.f (w:Int) b).bind fun t103=>((impl_bit.f (decide (t102 < t103))).bind fun t104=>(some t104)))) (fun k=>(spec_Signed.f k (w:Int) a).bind fun t102=>((spec_Signed.f k (w:Int) b).bind fun t103=>((spec_l01Bool.f (decide (t102 < t103))).bind fun t104=>(some t104)))) 0 (fun a0 a1 b0 b1=>?_)
 obtain ⟨x,e1,e2⟩:=apSigned w h1 h8 a
 obtain ⟨y,e3,e4⟩:=apSigned w h1 h8 b
 obtain ⟨v,hv⟩:=apBitS (decide (x < y))
 have hs:=(apBit (decide (x < y))).symm.trans hv
 refine ⟨v,by rw [e1,e3];simp only [Option.bind_some];rw [hv];rfl,?_⟩
 refine ev_bind (f:=fun k t102=>(spec_Signed.f k (w:Int) b).bind fun t103=>((spec_l01Bool.f (decide (t102 < t103))).bind fun t104=>(some t104))) e2 ?_
 refine ev_bind (f:=fun k t103=>(spec_l01Bool.f (decide (x < t103))).bind fun t104=>(some t104)) e4 ?_
 rw [hs]
 exact ev_some _
theorem apSlice (w:Nat) (h1:1≤w) (h8:w≤8) (n:Nat) (n1:1≤n) (n8:n≤8) (a low:Int) (hl : -9223372036854775808≤low∧low≤9223372036854775807):Same (impl_Slice.f (w:Int) a low (n:Int)) (fun k=>spec_Slice.f k (w:Int) a low (n:Int)):=by
 have hp:=apPow w h8
 have key:=apSolo w h1 h8 a ((impl_within.f (n:Int) 1 (w:Int)).bind fun t102=>(if t102=true then ((impl_within.f low 0 (wrap64 ((w:Int) - (n:Int)))).bind fun t103=>(if t103=true then (if 0≤(IntKind.u64.wrap (low)) then ((impl_cut.f (n:Int) (shr .i64 a (IntKind.u64.wrap (low)))).bind fun t104=>(some t104)) else (none)) else (some 0))) else (some 0))) (fun k=>if low < 0 then (spec_Slice.j0 k a low (n:Int) true) else ((spec_l01In.f (n:Int) 1 (wrap64 ((w:Int) - low))).bind fun t102=>(spec_Slice.j0 k a low (n:Int) (!t102)))) 0 (fun a0 a1=>by
  simp only [apWithin,apIn,Option.bind_some]
  have stop:Ev (fun k=>spec_Slice.j0 k a low (n:Int) true) 0:=ev_succ (by simp only [spec_Slice.j0,if_true];exact ev_some _)
  by_cases hr:0≤low∧low + (n:Int)≤(w:Int)
  ·rw [decide_eq_true (show (1:Int)≤(n:Int)∧(n:Int)≤(w:Int) by omega),if_pos rfl,decide_eq_true (show (0:Int)≤low∧low≤wrap64 ((w:Int) - (n:Int)) by unfold wrap64;omega),if_pos rfl]
   obtain ⟨j,rfl⟩:=Int.eq_ofNat_of_zero_le hr.1
   obtain ⟨x,rfl⟩:=Int.eq_ofNat_of_zero_le a0
   have hj:j≤8:=by omega
   have hq:=apPow j hj
   have hn:=apPow n n8
   simp only [if_neg (show ¬ (j:Int) < 0 by omega)]
   rw [decide_eq_true (show (1:Int)≤(n:Int)∧(n:Int)≤wrap64 ((w:Int) - (j:Int)) by unfold wrap64;omega),apU j hj,if_pos (by omega),shr_nat x j (by omega),apCut n n8]
   refine ⟨_,rfl,ev_succ ?_⟩
   simp only [spec_Slice.j0,Bool.not_true,Bool.false_eq_true,if_false]
   refine ev_bind (f:=fun k t103=>if t103=0 then (none) else ((spec_l01Pow2.f k (n:Int)).bind fun t104=>(if t104=0 then (none) else (some (Int.tmod (wrap64 (Int.tdiv (x:Int) t103)) t104))))) (apPow2 j hj) ?_
   simp only [if_neg (show ¬ (2:Int) ^ j=0 by omega)]
   refine ev_bind (f:=fun k t104=>if t104=0 then (none) else (some (Int.tmod (wrap64 (Int.tdiv (x:Int) ((2:Int) ^ j))) t104))) (apPow2 n n8) ?_
   rw [if_neg (by omega),Int.tdiv_eq_ediv_of_nonneg (by omega)]
   have e:(x:Int) / (2:Int) ^ j=((x / 2 ^ j:Nat):Int):=by push_cast;rfl
   have hle:x / 2 ^ j≤x:=Nat.div_le_self _ _
   rw [e]
   generalize x / 2 ^ j=q at hle ⊢
   rw [show wrap64 (q:Int)=(q:Int) from by unfold wrap64;omega,Int.tmod_eq_emod_of_nonneg (by omega)]
   exact ev_some _
  ·refine ⟨0,?_,?_⟩
   ·by_cases hn:(1:Int)≤(n:Int)∧(n:Int)≤(w:Int)
    ·rw [decide_eq_true hn,if_pos rfl,decide_eq_false (show ¬ ((0:Int)≤low∧low≤wrap64 ((w:Int) - (n:Int))) by unfold wrap64;omega),if_neg (by decide)]
    ·rw [decide_eq_false hn,if_neg (by decide)]
   ·by_cases hz:low < 0
    ·simp only [if_pos hz]
     exact stop
    ·simp only [if_neg hz]
     rw [decide_eq_false (show ¬ ((1:Int)≤(n:Int)∧(n:Int)≤wrap64 ((w:Int) - low)) by unfold wrap64;omega)]
     exact stop)
 obtain ⟨v,e1,e2⟩:=key
 refine ⟨v,e1,?_⟩
 obtain ⟨K,e2⟩:=e2
 refine ⟨K + 1,fun k hk=>?_⟩
 have h:=e2 k (by omega)
 obtain ⟨m,rfl⟩:∃ m,k=m + 1:=⟨k - 1,by omega⟩
 have hz:spec_Slice.j0 (m + 1) a low (n:Int) true=some 0:=by simp [spec_Slice.j0]
 show ((spec_WordOk.f (m + 1) (w:Int) a).bind fun t101=>if t101=true then (if low < 0 then (spec_Slice.j0 (m + 1) a low (n:Int) true) else ((spec_l01In.f (n:Int) 1 (wrap64 ((w:Int) - low))).bind fun t102=>(spec_Slice.j0 (m + 1) a low (n:Int) (!t102)))) else spec_Slice.j0 (m + 1) a low (n:Int) true)=some v
 rw [hz]
 dsimp only at h
 rw [hz] at h
 exact h
def apG (W w a b c:Int):Bool:=decide (1≤W∧W≤8) && (decide (1≤w∧w≤8) && (decide (0≤a∧a≤255) && (decide (0≤b∧b≤255) && decide (0≤c∧c≤255))))
theorem apI (k:Nat) (o W K A B C w a b c:Int):impl_Apply.f k o W K A B C w a b c=impl_Apply.j0 k w a b c (!apG W w a b c) o W K A B C:=by
 simp only [impl_Apply.f,impl_isWidth.f,impl_isByte.f,apWithin,Option.bind_some,apG]
 cases decide (1≤W∧W≤8) <;> cases decide (1≤w∧w≤8) <;> cases decide (0≤a∧a≤255) <;> cases decide (0≤b∧b≤255) <;> cases decide (0≤c∧c≤255) <;> rfl
theorem apS (k:Nat) (o W K A B C w a b c:Int):spec_Apply.f k o W K A B C w a b c=spec_Apply.j0 k w a b c (!apG W w a b c) o W K A B C:=by
 simp only [spec_Apply.f,apIn,Option.bind_some,apG]
 cases decide (1≤W∧W≤8) <;> cases decide (1≤w∧w≤8) <;> cases decide (0≤a∧a≤255) <;> cases decide (0≤b∧b≤255) <;> cases decide (0≤c∧c≤255) <;> rfl
theorem Same.both {I:Option Int} {S:Nat→Option Int} (h:Same I S):∃ v,Ev (fun _=>I.bind fun t=>some t) v∧Ev (fun k=>(S k).bind fun t=>some t) v:=by
 obtain ⟨v,e1,e2⟩:=h
 exact ⟨v,by rw [e1];exact ev_some _,ev_bind (f:=fun _ t=>some t) e2 (ev_some _)⟩
theorem apApply (o W K A B C w a b c:Int) (hK : -9223372036854775808≤K∧K≤9223372036854775807):∃ v,Ev (fun k=>impl_Apply.f k o W K A B C w a b c) v∧Ev (fun k=>spec_Apply.f k o W K A B C w a b c) v:=by
 simp only [apI,apS]
 cases hg:apG W w a b c with
 | false=>exact ⟨0,ev_succ (by simp only [impl_Apply.j0,Bool.not_false,if_true];exact ev_some _),ev_succ (by simp only [spec_Apply.j0,Bool.not_false,if_true];exact ev_some _)⟩
 | true =>
  simp only [apG,Bool.and_eq_true,decide_eq_true_eq] at hg
  obtain ⟨hW,hw,ha,hb,hc⟩:=hg
  obtain ⟨n,rfl⟩:=Int.eq_ofNat_of_zero_le (show 0≤W by omega)
  obtain ⟨u,rfl⟩:=Int.eq_ofNat_of_zero_le (show 0≤w by omega)
  have n1:1≤n:=by omega
  have n8:n≤8:=by omega
  have u1:1≤u:=by omega
  have u8:u≤8:=by omega
  suffices h:∃ v,Ev (fun k=>impl_Apply.j0 (k + 1) (u:Int) a b c (!true) o (n:Int) K A B C) v∧Ev (fun k=>spec_Apply.j0 (k + 1) (u:Int) a b c (!true) o (n:Int) K A B C) v by
   obtain ⟨v,e1,e2⟩:=h
   exact ⟨v,ev_succ e1,ev_succ e2⟩
  simp only [impl_Apply.j0,spec_Apply.j0,Bool.not_true,Bool.false_eq_true,if_false,apWithin,Option.bind_some]
  by_cases h0:o=0
  ·simp only [if_pos h0]
   exact ⟨_,ev_some _,ev_some _⟩
  simp only [if_neg h0]
  by_cases h2:o=2
  ·simp only [if_pos h2]
   exact (apFlip n n1 n8 a).both
  simp only [if_neg h2]
  by_cases h3:o=3
  ·subst h3
   simp only [impl_binary.f,show decide ((3:Int)≤3∧(3:Int)≤12)=true from rfl,if_true,Option.bind_some]
   exact ⟨_,ev_some _,ev_some _⟩
  by_cases h4:o=4
  ·subst h4
   simp only [impl_binary.f,show decide ((3:Int)≤4∧(4:Int)≤12)=true from rfl,if_true,Option.bind_some,if_neg h3]
   exact ⟨_,ev_some _,ev_some _⟩
  by_cases h5:o=5
  ·subst h5
   simp only [impl_binary.f,show decide ((3:Int)≤5∧(5:Int)≤12)=true from rfl,if_true,Option.bind_some,if_neg h3,if_neg h4]
   exact ⟨_,ev_some _,ev_some _⟩
  by_cases h6:o=6
  ·subst h6
   simp only [impl_binary.f,show decide ((3:Int)≤6∧(6:Int)≤12)=true from rfl,if_true,Option.bind_some,if_neg h3,if_neg h4,if_neg h5]
   obtain ⟨v,e1,e2⟩:=apAdd n n1 n8 a b
   exact ⟨v,by rw [e1];exact ev_some _,ev_bind (f:=fun _ t=>some t) e2 (ev_some _)⟩
  by_cases h7:o=7
  ·subst h7
   simp only [impl_binary.f,show decide ((3:Int)≤7∧(7:Int)≤12)=true from rfl,if_true,Option.bind_some,if_neg h3,if_neg h4,if_neg h5,if_neg h6]
   obtain ⟨v,e1,e2⟩:=apSub n n1 n8 a b
   exact ⟨v,by rw [e1];exact ev_some _,ev_bind (f:=fun _ t=>some t) e2 (ev_some _)⟩
  by_cases h8:o=8
  ·subst h8
   simp only [impl_binary.f,show decide ((3:Int)≤8∧(8:Int)≤12)=true from rfl,if_true,Option.bind_some,if_neg h3,if_neg h4,if_neg h5,if_neg h6,if_neg h7]
   obtain ⟨v,e1,e2⟩:=apMul n n1 n8 a b
   exact ⟨v,by rw [e1];exact ev_some _,ev_bind (f:=fun _ t=>some t) e2 (ev_some _)⟩
  by_cases h9:o=9
  ·subst h9
   simp only [impl_binary.f,show decide ((3:Int)≤9∧(9:Int)≤12)=true from rfl,if_true,Option.bind_some,if_neg h3,if_neg h4,if_neg h5,if_neg h6,if_neg h7,if_neg h8]
   obtain ⟨v,e1,e2⟩:=apDiv n n1 n8 a b
   exact ⟨v,by rw [e1];exact ev_some _,ev_bind (f:=fun _ t=>some t) e2 (ev_some _)⟩
  by_cases h10:o=10
  ·subst h10
   simp only [impl_binary.f,show decide ((3:Int)≤10∧(10:Int)≤12)=true from rfl,if_true,Option.bind_some,if_neg h3,if_neg h4,if_neg h5,if_neg h6,if_neg h7,if_neg h8,if_neg h9]
   obtain ⟨v,e1,e2⟩:=apRem n n1 n8 a b
   exact ⟨v,by rw [e1];exact ev_some _,ev_bind (f:=fun _ t=>some t) e2 (ev_some _)⟩
  by_cases h11:o=11
  ·subst h11
   simp only [impl_binary.f,show decide ((3:Int)≤11∧(11:Int)≤12)=true from rfl,if_true,Option.bind_some,if_neg h3,if_neg h4,if_neg h5,if_neg h6,if_neg h7,if_neg h8,if_neg h9,if_neg h10]
   obtain ⟨v,e1,e2⟩:=apShl n n1 n8 a b
   exact ⟨v,by rw [e1];exact ev_some _,ev_bind (f:=fun _ t=>some t) e2 (ev_some _)⟩
  by_cases h12:o=12
  ·subst h12
   simp only [impl_binary.f,show decide ((3:Int)≤12∧(12:Int)≤12)=true from rfl,if_true,Option.bind_some,if_neg h3,if_neg h4,if_neg h5,if_neg h6,if_neg h7,if_neg h8,if_neg h9,if_neg h10,if_neg h11]
   obtain ⟨v,e1,e2⟩:=apShr n n1 n8 a b
   exact ⟨v,by rw [e1];exact ev_some _,ev_bind (f:=fun _ t=>some t) e2 (ev_some _)⟩
  simp only [if_neg h3,if_neg h4,if_neg h5,if_neg h6,if_neg h7,if_neg h8,if_neg h9,if_neg h10,if_neg h11,if_neg h12]
  rw [show decide ((3:Int)≤o∧o≤12)=false from decide_eq_false (by omega)]
  simp only [Bool.false_eq_true,if_false]
  by_cases h13:o=13
  ·simp only [if_pos h13]
   obtain ⟨v,hv⟩:=apBitS (a == b)
   have hs:=(apBit (a == b)).symm.trans hv
   exact ⟨v,by rw [hv];exact ev_some _,by rw [hs];exact ev_some _⟩
  simp only [if_neg h13]
  by_cases h14:o=14
  ·simp only [if_pos h14]
   exact (apLess u u1 u8 a b).both
  simp only [if_neg h14]
  by_cases h15:o=15
  ·simp only [if_pos h15]
   exact (apLessSigned u u1 u8 a b).both
  simp only [if_neg h15]
  by_cases h16:o=16
  ·simp only [if_pos h16]
   by_cases hj:(n:Int) < (u:Int)
   ·simp only [if_pos hj,decide_eq_true hj]
    exact ⟨b,ev_succ (by simp only [impl_Apply.j1,if_true];exact ev_some _),ev_some _⟩
   ·simp only [if_neg hj,decide_eq_false hj]
    obtain ⟨j,rfl⟩:∃ j,n=u + j:=⟨n - u,by omega⟩
    have hj8:j≤8:=by omega
    have hq:=apPow j hj8
    obtain ⟨x,rfl⟩:=Int.eq_ofNat_of_zero_le ha.1
    have hx:x≤255:=by omega
    have hj2:2 ^ j≤256:=Nat.le_trans (Nat.pow_le_pow_right (by decide) hj8) (by decide)
    have hm:x * 2 ^ j≤255 * 256:=Nat.mul_le_mul hx hj2
    have ew:wrap64 (((u + j:Nat):Int) - (u:Int))=(j:Int):=by unfold wrap64;omega
    have e:(x:Int) * (2:Int) ^ j=((x * 2 ^ j:Nat):Int):=by push_cast;rfl
    refine ⟨wrap64 (((x * 2 ^ j:Nat):Int) + b),ev_succ ?_,?_⟩
    ·simp only [impl_Apply.j1,Bool.false_eq_true,if_false,if_pos h16,ew]
     rw [apU j hj8,if_pos (by omega),shl_nat x j (by omega) (by omega)]
     exact ev_some _
    ·rw [ew]
     refine ev_bind (f:=fun _ t118=>some (wrap64 ((wrap64 ((x:Int) * t118)) + b))) (apPow2 j hj8) ?_
     rw [e,show wrap64 ((x * 2 ^ j:Nat):Int)=((x * 2 ^ j:Nat):Int) from by unfold wrap64;omega]
     exact ev_some _
  simp only [if_neg h16]
  by_cases h17:o=17
  ·simp only [if_pos h17]
   obtain ⟨v,e1,e2⟩:=(apSlice u u1 u8 n n1 n8 a K hK).both
   refine ⟨v,ev_succ ?_,e2⟩
   simp only [impl_Apply.j1,Bool.false_eq_true,if_false,if_neg h16,if_pos h17]
   exact e1
  simp only [if_neg h17]
  by_cases h18:o=18
  ·simp only [if_pos h18]
   by_cases hx:a=1
   ·refine ⟨b,ev_succ ?_,?_⟩
    ·simp only [impl_Apply.j1,Bool.false_eq_true,if_false,if_neg h16,if_neg h17,if_pos h18,beq_iff_eq.2 hx]
     exact ev_succ (by simp only [impl_Apply.j2,if_true];exact ev_some _)
    ·simp only [if_pos hx]
     exact ev_some _
   ·refine ⟨c,ev_succ ?_,?_⟩
    ·simp only [impl_Apply.j1,Bool.false_eq_true,if_false,if_neg h16,if_neg h17,if_pos h18,beq_eq_false_iff_ne.2 hx]
     exact ev_succ (by simp only [impl_Apply.j2,Bool.false_eq_true,if_false,if_pos h18];exact ev_some _)
    ·simp only [if_neg hx]
     exact ev_some _
  simp only [if_neg h18]
  refine ⟨0,ev_succ ?_,ev_some _⟩
  simp only [impl_Apply.j1,Bool.false_eq_true,if_false,if_neg h16,if_neg h17,if_neg h18]
  exact ev_succ (by simp only [impl_Apply.j2,Bool.false_eq_true,if_false,if_neg h18];exact ev_some _)
end Go.Proofs.Ythipjoioicmcnaa.Pure
