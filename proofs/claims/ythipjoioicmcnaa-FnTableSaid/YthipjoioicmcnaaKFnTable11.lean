-- texts of this session, merged by a program of it (wip/gen/pack.py)
import Derived.Test.YthipjoioicmcnaaKFnTable2
import Derived.Test.YthipjoioicmcnaaKFnTable10
import Derived.Test.YthipjoioicmcnaaKFnTable6
import Derived.Test.YthipjoioicmcnaaKFnTable5
import Derived.Test.YthipjoioicmcnaaKFnTable9
set_option linter.unusedVariables false
set_option linter.unusedSimpArgs false
set_option maxHeartbeats 80000000
set_option maxRecDepth 100000
namespace Go.Proofs.Ythipjoioicmcnaa.G
open Go.RowKit Go.Proofs.YthipjoioicmcnaaW.PrintWords Go.Proofs.YthipjoioicmcnaaW.PrintLast Go.Proofs.YthipjoioicmcnaaW.PrintMore Go.Proofs.Ythipjoioicmcnaa.Sh
attribute [local go_sem] eS eR fI fJ eI eJ eU eT
section
variable {W:World} {go ck b n:Nat} {kn:List Int} {ok:Nat→Prop}
theorem pR (h:Kd.R (Kd.int .i64) 3 W b ok (.slice (some ⟨go,0,none⟩) n ck) kn) (i:Int) (h0:0≤i) (h1:i < n):W.cell? ⟨go,i.toNat,none⟩=some (.int .i64 (rd kn i))∧W.frozen? ⟨go,i.toNat,none⟩=false:=Kd.R_celln (0:Int) h i h0 h1
theorem wE (h:Kd.R (Kd.int .i64) 3 W b ok (.slice (some ⟨go,0,none⟩) n ck) kn) (i:Int) (v:Int):Kd.R (Kd.int .i64) 3 (W.setCell ⟨go,i.toNat,none⟩ (.int .i64 v)) b ok (.slice (some ⟨go,0,none⟩) n ck) (kn.set i.toNat v)∧W.grownBy (W.setCell ⟨go,i.toNat,none⟩ (.int .i64 v)) (some go):=Kd.R_putg h i v
end
def uS:Nat→List bN→List Int→List Int→Int→Int→List Int→Option (Int × List Int)
 | 0,_,_,_,_,_,_=>none
 | k + 1,l0,l2,ps,j,wd,zs=>if j < (ps.length:Int) then (if 0≤j∧j < (zs.length:Int) then (if 0≤rd ps j∧rd ps j < (l2.length:Int) then (if j=0 then (if rd ps j < (l0.length:Int) then uS k l0 l2 ps (wrap64 (j + 1)) (aC l0 (rd ps j)).f1 (zs.set j.toNat (rd l2 (rd ps j))) else none) else uS k l0 l2 ps (wrap64 (j + 1)) wd (zs.set j.toNat (rd l2 (rd ps j)))) else none) else none) else some (wd,zs)
def gC.f (k:Nat) (l0:List bN) (l1 l2:List Int) (i:Int):Option Int:=if 0≤i∧i < (l0.length:Int) then (if (aC l0 i).f0=1 then (if 0≤(aC l0 i).f2∧(aC l0 i).f2 < (l1.length:Int) then some (rd l1 (aC l0 i).f2) else none) else (bR.f (aC l0 i).f0).bind fun t=>if t=true then none else (cI.f k (aC l0 i).f0 (aC l0 i).f1 (aC l0 i).f2 (aC l0 i).f3 (aC l0 i).f4 (aC l0 i).f5).bind fun ps=>(uS k l0 l2 ps 0 1 [0,0,0]).bind fun q=>cG.f k (aC l0 i).f0 (aC l0 i).f1 (aC l0 i).f2 (aC l0 i).f3 (aC l0 i).f4 (aC l0 i).f5 q.1 (rd q.2 0) (rd q.2 1) (rd q.2 2)) else none
theorem gC.calls (k:Nat) (A0:Option Addr) (c0:Nat) (l0:List (bN)) (A1:Option Addr) (c1:Nat) (l1:List Int) (A2:Option Addr) (c2:Nat) (l2:List Int) (i:Int) (r:Int) (w:World) (hr0:Kd.C eV w A0 l0.length l0) (hc0:l0.length≤c0) (hr1:Kd.C (Kd.int .i64) w A1 l1.length l1) (hc1:l1.length≤c1) (hr2:Kd.C (Kd.int .i64) w A2 l2.length l2) (hc2:l2.length≤c2) (h:gC.f k l0 l1 l2 i=some r) :
  Calls Try.prog 118 #[.slice A0 l0.length c0,.slice A1 l1.length c1,.slice A2 l2.length c2,.int .i64 i] w fun e w'=>e = .returned (.int .i64 r)∧Below w.heap.size w w':=by
 have HR0:=aA.mk hr0;have HR1:=aA.mk hr1;have HR2:=aA.mk hr2;clear hr0 hr1 hr2 hc0 hc1 hc2;unfold gC.f at h
 by_cases c3:0≤i∧i < (l0.length:Int)
 case neg=>rw [if_neg c3] at h;cases h
 rw [if_pos c3] at h;obtain ⟨ad,e_,hx0,hx1,hx2,hx3,hx4,hx5⟩:=dD HR0.out i c3.1 c3.2;cases e_;obtain ⟨c3,c4⟩:=c3;have d3:decide (0≤i)=true:=decide_eq_true c3;have d4:decide (i < (l0.length:Int))=true:=decide_eq_true c4;replace c3:=eq_true c3;replace c4:=eq_true c4;have H:=aA.mk h;clear h
 go_enter Try.func118,Try.ntmps118
 go_upto_region 2 with (first|((with_reducible refine bM (N:=9) rfl ?_);refine bx (N:=9) (cs:=#[.int .i64 0,.int .i64 0,.int .i64 0,.int .i64 0,.int .i64 0,.int .i64 0]) (t:=99) ?_;intro gn hg w1 hbox hb;have BN0:=aA.mk hbox;have HX0:=aA.mk hb;have GN:=aA.mk (show w.heap.size≤gn by rw [hg];exact Nat.le_refl _);have hz0:w1.cell? ⟨gn,0,none⟩=some (.int .i64 0):=(aG BN0.out 0).trans rfl;have hfz0:=aW BN0.out 0;have hz1:w1.cell? ⟨gn,1,none⟩=some (.int .i64 0):=(aG BN0.out 1).trans rfl;have hfz1:=aW BN0.out 1;have hz2:w1.cell? ⟨gn,2,none⟩=some (.int .i64 0):=(aG BN0.out 2).trans rfl;have hfz2:=aW BN0.out 2;have hz3:w1.cell? ⟨gn,3,none⟩=some (.int .i64 0):=(aG BN0.out 3).trans rfl;have hfz3:=aW BN0.out 3;have hz4:w1.cell? ⟨gn,4,none⟩=some (.int .i64 0):=(aG BN0.out 4).trans rfl;have hfz4:=aW BN0.out 4;have hz5:w1.cell? ⟨gn,5,none⟩=some (.int .i64 0):=(aG BN0.out 5).trans rfl;have hfz5:=aW BN0.out 5;clear hg hbox hb))
 have HB5:aA (Below w.heap.size w ((((((w1.setCell ⟨gn,0,none⟩ (.int .i64 (aC l0 i).f0)).setCell ⟨gn,1,none⟩ (.int .i64 (aC l0 i).f1)).setCell ⟨gn,2,none⟩ (.int .i64 (aC l0 i).f2)).setCell ⟨gn,3,none⟩ (.int .i64 (aC l0 i).f3)).setCell ⟨gn,4,none⟩ (.int .i64 (aC l0 i).f4)).setCell ⟨gn,5,none⟩ (.int .i64 (aC l0 i).f5))):=⟨aZ (aZ (aZ (aZ (aZ (aZ (HX0.out) GN.out) GN.out) GN.out) GN.out) GN.out) GN.out⟩;have BN5:aA (((((((w1.setCell ⟨gn,0,none⟩ (.int .i64 (aC l0 i).f0)).setCell ⟨gn,1,none⟩ (.int .i64 (aC l0 i).f1)).setCell ⟨gn,2,none⟩ (.int .i64 (aC l0 i).f2)).setCell ⟨gn,3,none⟩ (.int .i64 (aC l0 i).f3)).setCell ⟨gn,4,none⟩ (.int .i64 (aC l0 i).f4)).setCell ⟨gn,5,none⟩ (.int .i64 (aC l0 i).f5)).heap[gn]? = some (.cells #[.int .i64 (aC l0 i).f0,.int .i64 (aC l0 i).f1,.int .i64 (aC l0 i).f2,.int .i64 (aC l0 i).f3,.int .i64 (aC l0 i).f4,.int .i64 (aC l0 i).f5] 99 (0,0))):=⟨bF (cs:=#[.int .i64 (aC l0 i).f0,.int .i64 (aC l0 i).f1,.int .i64 (aC l0 i).f2,.int .i64 (aC l0 i).f3,.int .i64 (aC l0 i).f4,.int .i64 0]) (bF (cs:=#[.int .i64 (aC l0 i).f0,.int .i64 (aC l0 i).f1,.int .i64 (aC l0 i).f2,.int .i64 (aC l0 i).f3,.int .i64 0,.int .i64 0]) (bF (cs:=#[.int .i64 (aC l0 i).f0,.int .i64 (aC l0 i).f1,.int .i64 (aC l0 i).f2,.int .i64 0,.int .i64 0,.int .i64 0]) (bF (cs:=#[.int .i64 (aC l0 i).f0,.int .i64 (aC l0 i).f1,.int .i64 0,.int .i64 0,.int .i64 0,.int .i64 0]) (bF (cs:=#[.int .i64 (aC l0 i).f0,.int .i64 0,.int .i64 0,.int .i64 0,.int .i64 0,.int .i64 0]) (bF (cs:=#[.int .i64 0,.int .i64 0,.int .i64 0,.int .i64 0,.int .i64 0,.int .i64 0]) (BN0.out) 0 (.int .i64 (aC l0 i).f0) rfl) 1 (.int .i64 (aC l0 i).f1) rfl) 2 (.int .i64 (aC l0 i).f2) rfl) 3 (.int .i64 (aC l0 i).f3) rfl) 4 (.int .i64 (aC l0 i).f4) rfl) 5 (.int .i64 (aC l0 i).f5) rfl⟩;clear hz0 hfz0 hz1 hfz1 hz2 hfz2 hz3 hfz3 hz4 hfz4 hz5 hfz5 BN0 HX0 hx0 hx1 hx2 hx3 hx4 hx5;generalize ((((((w1.setCell ⟨gn,0,none⟩ (.int .i64 (aC l0 i).f0)).setCell ⟨gn,1,none⟩ (.int .i64 (aC l0 i).f1)).setCell ⟨gn,2,none⟩ (.int .i64 (aC l0 i).f2)).setCell ⟨gn,3,none⟩ (.int .i64 (aC l0 i).f3)).setCell ⟨gn,4,none⟩ (.int .i64 (aC l0 i).f4)).setCell ⟨gn,5,none⟩ (.int .i64 (aC l0 i).f5))=w5 at BN5 HB5 ⊢;obtain ⟨hcn0,hcn1,hcn2,hcn3,hcn4,hcn5⟩:=eM BN5;have h:=H.out;clear H
 by_cases c5:(aC l0 i).f0=1
 ·rw [if_pos c5] at h;have d5:((aC l0 i).f0 == 1)=true:=beq_iff_eq.2 c5;clear c5
  by_cases c6:0≤(aC l0 i).f2∧(aC l0 i).f2 < (l1.length:Int)
  case neg=>rw [if_neg c6] at h;cases h
  rw [if_pos c6] at h;obtain rfl:=Option.some.inj h;clear h;obtain ⟨ad1,e_,hy⟩:=Kd.at_int HR1.out _ c6.1 c6.2;cases e_;replace hy:=ct HB5 hy;obtain ⟨c6,c7⟩:=c6;have d6:decide (0≤(aC l0 i).f2)=true:=decide_eq_true c6;have d7:decide ((aC l0 i).f2 < (l1.length:Int))=true:=decide_eq_true c7;replace c6:=eq_true c6;replace c7:=eq_true c7;go_wp2;go_ret;exact ⟨rfl,HB5.out⟩
 rw [if_neg c5] at h;have d5:((aC l0 i).f0 == 1)=false:=beq_eq_false_iff_ne.2 c5;clear c5;obtain ⟨t,ht,h⟩:=Option.bind_eq_some_iff.1 h;have HQ:=aA.mk ht;clear ht
 cases t with
 | true=>rw [if_pos rfl] at h;cases h
 | false =>
 rw [if_neg (by decide)] at h;obtain ⟨ps,hp,h⟩:=Option.bind_eq_some_iff.1 h;obtain ⟨⟨wd',zs'⟩,hl,h⟩:=Option.bind_eq_some_iff.1 h;have HP:=aA.mk hp;have HLL:=aA.mk hl;have HAP0:=aA.mk h;clear hp hl h;go_wp2_with (first|(go_at_call 103;(try simp only [aJ,aK]);(with_reducible refine (bR.calls (aC l0 i).f0 false _ HQ.out).mono ?_);rintro e w' ⟨rfl,⟨nd,rfl⟩⟩)|((with_reducible refine bM (N:=66) rfl ?_);refine Kd.R_lit (Kd.int .i64) _ 3 ?hg (N:=66) ?hd (xs:=([0,0,0]:List Int)) (inner:=[.int .i64 0,.int .i64 0,.int .i64 0]) (ok:=fun _=>True) (okp:=fun _=>True) ?hr ?hp (fun _ hk=>hk) trivial (Below.refl _ _) (Nat.le_refl _) (by simp) ?_;(case hd=>rfl);(case hg=>rfl);(case hr=>first|(go_simp;done)|(go_simp;rfl));(case hp=>exact (cP.one (show Kd.M (Kd.int .i64) _ _ _ 0 [.int .i64 0] from rfl) (cP.one (show Kd.M (Kd.int .i64) _ _ _ 0 [.int .i64 0] from rfl) (cP.one (show Kd.M (Kd.int .i64) _ _ _ 0 [.int .i64 0] from rfl) (cP.none _ _)))));intro v102 w6 ho hb hg_ hnew_;clear hg_ hnew_;have HZ6:=aA.mk (Kd.R_lower ho (aV HB5.out _).size);have HB6:=aA.mk (aE (aV HB5.out _) hb);have BN6:=aA.mk (aQ (bH BN5.out _) hb);clear ho hb;obtain ⟨gz,cz,ez,GZ,GZL,_⟩:=Kd.R_form HZ6.out (by simp);subst ez;have GZ_:=aA.mk GZ;have GZL_:=aA.mk GZL;clear GZ GZL;clear hcn0 hcn1 hcn2 hcn3 hcn4 hcn5;obtain ⟨hcn0,hcn1,hcn2,hcn3,hcn4,hcn5⟩:=eM BN6)|((with_reducible refine aD (f:=99) rfl ?_);(try (refine cV (by rfl) ?_;dsimp only));refine aT (some 68) rfl rfl Try.func99 (by kernel_rfl) rfl #[.agg #[.int .i64 (aC l0 i).f0,.int .i64 (aC l0 i).f1,.int .i64 (aC l0 i).f2,.int .i64 (aC l0 i).f3,.int .i64 (aC l0 i).f4,.int .i64 (aC l0 i).f5]] rfl ml ?_;(with_reducible refine (cI.calls k (aC l0 i).f0 (aC l0 i).f1 (aC l0 i).f2 (aC l0 i).f3 (aC l0 i).f4 (aC l0 i).f5 ps _ HP.out).mono ?_);rintro e w7 ⟨v_,rfl,ho,hb⟩;refine ⟨_,rfl,?_⟩;have HRp:=aA.mk (Kd.R_mono (Kd.R_bound (Kd.R_lower ho (Nat.le_refl _))) (ok':=fun k=>k≠gz) (fun k hk=>by have:=hk.2.1;have:=GZL_.out;omega));have HRq:=aA.mk (Kd.R_lower HRp.out HB6.out.size);have HZ7:=aA.mk (Kd.R_below HZ6.out hb);have HB7:=aA.mk (aE HB6.out hb);have BN7:=aA.mk (aQ BN6.out hb);clear ho hb;clear hcn0 hcn1 hcn2 hcn3 hcn4 hcn5;obtain ⟨Ap,cp,ep⟩:=Kd.R_slice HRq.out;subst ep))
 have NZ:=aA.mk (show gn≠gz from fun e=>by
  obtain ⟨cs,hcs⟩:=Kd.R_typed HZ7.out gz rfl;rw [← e,BN7.out] at hcs
  simp at hcs)
 go_loopg [15,17] k (fun kq v15 v17 wr=>∃ (wd j:Int) (zs:List Int),v15 = .int .i64 wd∧v17 = .int .i64 j∧aA (uS kq l0 l2 ps j wd zs=some (wd',zs'))∧aA (kq≤k)∧aA (zs.length=3)∧aA (wr.heap[gn]? = some (.cells #[.int .i64 (aC l0 i).f0,.int .i64 (aC l0 i).f1,.int .i64 (aC l0 i).f2,.int .i64 (aC l0 i).f3,.int .i64 (aC l0 i).f4,.int .i64 (aC l0 i).f5] 99 (0,0)))∧aA (Kd.R (Kd.int .i64) 3 wr w.heap.size (fun k=>k≠gz) (.slice Ap ps.length cp) ps)∧aA (Kd.R (Kd.int .i64) 3 wr w.heap.size (fun _=>True) (.slice (some ⟨gz,0,none⟩) 3 cz) zs)∧aA (Below w.heap.size w wr))
 case atStart=>exact ⟨1,0,[0,0,0],rfl,rfl,HLL,⟨Nat.le_refl _⟩,⟨rfl⟩,BN7,HRq,⟨HZ7.out⟩,HB7⟩
 case round =>
  clear HLL BN7 HRq HRp HZ7 HB7 d3 d4 c3 c4 d5;obtain ⟨wd,j,zs,rfl,rfl,HA,HK1,HL,BN,HR,HZ,HB⟩:=hrel
  cases gk with
  | zero=>exact absurd HA.out (by simp [uS])
  | succ k1 =>
  have H:=HA.out;clear HA;simp only [uS] at H
  by_cases c3:j < (ps.length:Int)
  ·rw [if_pos c3] at H
   by_cases c4:0≤j∧j < (zs.length:Int)
   case neg=>rw [if_neg c4] at H;cases H
   rw [if_pos c4] at H
   by_cases c6:0≤rd ps j∧rd ps j < (l2.length:Int)
   case neg=>rw [if_neg c6] at H;cases H
   rw [if_pos c6] at H;rw [HL.out] at c4;obtain ⟨c4,c5⟩:=c4;obtain ⟨ap,e_,hp⟩:=Kd.at_int (Kd.R_reads' HR.out).2.2 j c4 c3;cases e_;obtain ⟨ad2,e_,hy⟩:=Kd.at_int HR2.out _ c6.1 c6.2;cases e_;replace hy:=ct HB hy;obtain ⟨hz1,hf1⟩:=pR HZ.out j c4 c5;have HZs:=aA.mk (wE HZ.out j (rd l2 (rd ps j))).1;have HRs:=aA.mk (Kd.R_grown HR.out (wE HZ.out j (rd l2 (rd ps j))).2 (fun k hk e=>hk (by injection e)));have HBs:=aA.mk (aZ (j:=j.toNat) (v := .int .i64 (rd l2 (rd ps j))) HB.out GZ_.out);obtain ⟨ap2,e_,hp2⟩:=Kd.at_int (Kd.R_reads' HRs.out).2.2 j c4 c3
   obtain rfl:ap=ap2:=by injection e_
   clear e_;have d3:decide (j < (ps.length:Int))=true:=decide_eq_true c3;have d4:decide (0≤j)=true:=decide_eq_true c4;have d7:decide (j < 3)=true:=decide_eq_true c5;obtain ⟨c6,c7⟩:=c6;have C6:=aA.mk c6;have d6:decide (0≤rd ps j)=true:=decide_eq_true c6;have d8:decide (rd ps j < (l2.length:Int))=true:=decide_eq_true c7;replace c3:=eq_true c3;replace c4:=eq_true c4;replace c5:(j < 3)=True:=eq_true c5;replace c6:=eq_true c6;replace c7:=eq_true c7
   by_cases z0:j=0
   ·rw [if_pos z0] at H;have ee0:(j == 0)=true:=beq_iff_eq.2 z0
    by_cases c8:rd ps j < (l0.length:Int)
    case neg=>rw [if_neg c8] at H;cases H
    rw [if_pos c8] at H;obtain ⟨ad3,e_,_,hx1,_⟩:=dD HR0.out (rd ps j) C6.out c8
    obtain rfl:ad=ad3:=by injection e_
    clear e_;replace hx1:=ct HBs hx1;have d9:decide (rd ps j < (l0.length:Int))=true:=decide_eq_true c8;replace c8:=eq_true c8;have H':=aA.mk H;clear H z0;go_wp2;go_roundg k1
    case measure=>have:=HK1.out;omega
    case rel=>exact ⟨_,wrap64 (j + 1),_,(by first|rfl|(simp;done)),(by first|rfl|(simp;done)),H',⟨by have:=HK1.out;omega⟩,⟨by rw [List.length_set];exact HL.out⟩,⟨dR BN.out NZ.out _⟩,HRs,HZs,HBs⟩
   ·rw [if_neg z0] at H;have ee0:(j == 0)=false:=beq_eq_false_iff_ne.2 z0;have H':=aA.mk H;clear H z0;go_wp2;go_roundg k1
    case measure=>have:=HK1.out;omega
    case rel=>exact ⟨_,wrap64 (j + 1),_,(by first|rfl|(simp;done)),(by first|rfl|(simp;done)),H',⟨by have:=HK1.out;omega⟩,⟨by rw [List.length_set];exact HL.out⟩,⟨dR BN.out NZ.out _⟩,HRs,HZs,HBs⟩
  ·rw [if_neg c3] at H;have d3:decide (j < (ps.length:Int))=false:=decide_eq_false c3;clear c3
   obtain ⟨rfl,rfl⟩:wd=wd'∧zs=zs':=by simpa using H
   have HAP:aA (cG.f k (aC l0 i).f0 (aC l0 i).f1 (aC l0 i).f2 (aC l0 i).f3 (aC l0 i).f4 (aC l0 i).f5 wd (rd zs 0) (rd zs 1) (rd zs 2)=some r):=⟨HAP0.out⟩;clear H HAP0;go_wp2;have BN8:=aA.mk (bE BN.out);have HZ8:=aA.mk (Kd.R_drew HZ.out);have HB8:=aA.mk (bQ HB.out);refine eW (n:=13) (S:=fun w'=>w'.cell? ⟨gn,0,none⟩=some (.int .i64 (aC l0 i).f0)∧w'.cell? ⟨gn,1,none⟩=some (.int .i64 (aC l0 i).f1)∧w'.cell? ⟨gn,2,none⟩=some (.int .i64 (aC l0 i).f2)∧w'.cell? ⟨gn,3,none⟩=some (.int .i64 (aC l0 i).f3)∧w'.cell? ⟨gn,4,none⟩=some (.int .i64 (aC l0 i).f4)∧w'.cell? ⟨gn,5,none⟩=some (.int .i64 (aC l0 i).f5)∧w'.cell? ⟨gz,0,none⟩=some (.int .i64 (rd zs 0))∧w'.cell? ⟨gz,1,none⟩=some (.int .i64 (rd zs 1))∧w'.cell? ⟨gz,2,none⟩=some (.int .i64 (rd zs 2))) (ds:=[11]) (tf 0 13) (by kernel_rfl) rfl rfl ⟨(aG BN8.out 0).trans rfl,(aG BN8.out 1).trans rfl,(aG BN8.out 2).trans rfl,(aG BN8.out 3).trans rfl,(aG BN8.out 4).trans rfl,(aG BN8.out 5).trans rfl,(pR HZ8.out 0 (by decide) (by decide)).1,(pR HZ8.out 1 (by decide) (by decide)).1,(pR HZ8.out 2 (by decide) (by decide)).1⟩ (fun hHeld=>?_);generalize wr.drew=w8 at BN8 HZ8 HB8 hHeld ⊢;refine pv 1 96 #[false,true,false,false,false,false,false,false,false,false,false,false,false] ?_;refine pv 2 97 #[false,true,true,false,false,false,false,false,false,false,false,false,false] ?_;refine pv 3 98 #[false,true,true,true,false,false,false,false,false,false,false,false,false] ?_;refine pv 5 100 #[false,true,true,true,false,true,false,false,false,false,false,false,false] ?_;refine pv 6 101 #[false,true,true,true,false,true,true,false,false,false,false,false,false] ?_;refine pv 8 103 #[false,true,true,true,false,true,true,false,true,false,false,false,false] ?_;refine pv 9 104 #[false,true,true,true,false,true,true,false,true,true,false,false,false] ?_;refine tv 0 95 #[true,true,true,true,false,true,true,false,true,true,false,false,false] hHeld ?_;refine tv 4 99 #[true,true,true,true,true,true,true,false,true,true,false,false,false] hHeld ?_;refine tv 7 102 (tf 10 3) hHeld ?_;refine tv 10 105 (tf 11 2) hHeld ?_;refine rK (i:=11) (N:=some 106) (tf 12 1) rfl rfl (by kernel_rfl) (by decide) (fun K hK=>?_);refine fV Try.func135 (by kernel_rfl) rfl #[.agg #[.int .i64 (aC l0 i).f0,.int .i64 (aC l0 i).f1,.int .i64 (aC l0 i).f2,.int .i64 (aC l0 i).f3,.int .i64 (aC l0 i).f4,.int .i64 (aC l0 i).f5],.int .i64 wd,.int .i64 (rd zs 0),.int .i64 (rd zs 1),.int .i64 (rd zs 2)] (by rfl) rfl rfl (by simp only [List.map_toArray,List.map_cons,List.map_nil];rfl) ?_
   with_reducible refine (cG.calls k (aC l0 i).f0 (aC l0 i).f1 (aC l0 i).f2 (aC l0 i).f3 (aC l0 i).f4 (aC l0 i).f5 wd (rd zs 0) (rd zs 1) (rd zs 2) r _ HAP.out).mono ?_
   rintro e w9 ⟨rfl,hb⟩;refine ⟨_,rfl,?_⟩;have HB9:=aA.mk (aE HB8.out hb);refine hK.out _ _ ?_;clear hK K;refine dZ (a':=?_) ?_ ?_;rotate_left
   ·show Act.put _ (some 106) _=_
    simp only [Act.put,s1,s2,s3,aJ,aK];rfl
   refine pv 12 8 (tf 13 0) ?_;refine gG (by kernel_rfl) ?_;go_wp2;go_ret;exact ⟨rfl,HB9.out⟩
def uY (l0:List bN) (l1:List Int) (a2:Int):Nat→List Int→Int→Option Int
 | 0,_,_=>none
 | k + 1,vals,i=>if i≤a2 then (gC.f k l0 l1 vals i).bind fun v=>if vals.length < 17592186044416 then uY l0 l1 a2 k (vals ++ [v]) (wrap64 (i + 1)) else none else (if 0≤a2∧a2 < (vals.length:Int) then some (rd vals a2) else none)
def eX.f (k:Nat) (l0:List bN) (l1:List Int) (a2:Int):Option Int:=uY l0 l1 a2 k [] 0
theorem eX.calls (k:Nat) (A0:Option Addr) (c0:Nat) (l0:List (bN)) (A1:Option Addr) (c1:Nat) (l1:List Int) (a2:Int) (r:Int) (w:World) (hr0:Kd.C eV w A0 l0.length l0) (hc0:l0.length≤c0) (hr1:Kd.C (Kd.int .i64) w A1 l1.length l1) (hc1:l1.length≤c1) (h:eX.f k l0 l1 a2=some r) :
  Calls Try.prog 83 #[.slice A0 l0.length c0,.slice A1 l1.length c1,.int .i64 a2] w fun e w'=>e = .returned (.int .i64 r)∧Below w.heap.size w w':=by
 have HR0:=aA.mk hr0;have HR1:=aA.mk hr1;have HC0:=aA.mk hc0;have HC1:=aA.mk hc1;have HF:aA (uY l0 l1 a2 k [] 0=some r):=⟨h⟩;clear hr0 hr1 hc0 hc1 h
 go_enter Try.func83,Try.ntmps83
 go_wp2_with (first|((with_reducible refine bM (N:=9) rfl ?_);refine Kd.R_lit (Kd.int .i64) _ 3 ?hg (N:=9) ?hd (xs:=([]:List Int)) (inner:=[]) (ok:=fun _=>True) (okp:=fun _=>True) ?hr ?hp (fun _ hk=>hk) trivial (Below.refl _ _) (Nat.le_refl _) (by simp) ?_;(case hd=>rfl);(case hg=>rfl);(case hr=>first|(go_simp;done)|(go_simp;rfl));(case hp=>exact (cP.none _ _));intro v102 w1 ho hb hg_ hnew_;clear hg_ hnew_;have HO1:=aA.mk ho;have HB1:=aA.mk hb;clear ho hb))
 go_loopg [7,8] k (fun kq v7 v8 wr=>∃ (i:Int) (vals:List Int),v8 = .int .i64 i∧aA (uY l0 l1 a2 kq vals i=some r)∧aA (kq≤k)∧aA (Kd.R (Kd.int .i64) 3 wr w.heap.size (fun _=>True) v7 vals)∧aA (Below w.heap.size w wr))
 case atStart=>exact ⟨0,[],rfl,HF,⟨Nat.le_refl _⟩,HO1,HB1⟩
 case round =>
  clear HF HO1 HB1;obtain ⟨i,vals,rfl,HA,HK1,HO,HB⟩:=hrel;obtain ⟨Av,cv,ev⟩:=Kd.R_slice HO.out;subst ev
  cases gk with
  | zero=>exact absurd HA.out (by simp [uY])
  | succ k1 =>
  have H:=HA.out;clear HA;simp only [uY] at H
  by_cases c3:i≤a2
  ·rw [if_pos c3] at H;obtain ⟨v,hv,H⟩:=Option.bind_eq_some_iff.1 H
   by_cases c4:vals.length < 17592186044416
   case neg=>rw [if_neg c4] at H;cases H
   rw [if_pos c4] at H;have LM:=aA.mk c4;have HV:=aA.mk hv;have H':=aA.mk H;have d3:decide (i≤a2)=true:=decide_eq_true c3;clear hv H c3 c4;go_wp2_with (first|((with_reducible refine aD (f:=118) rfl ?_);(try (refine cV (by rfl) ?_;dsimp only));refine aT (some 20) rfl rfl Try.func118 (by kernel_rfl) rfl #[.slice A0 l0.length c0,.slice A1 l1.length c1,.slice Av vals.length cv,.int .i64 i] rfl ml ?_;(with_reducible refine (gC.calls k1 A0 c0 l0 A1 c1 l1 Av cv vals i v _ (Kd.C_below HR0.out HB.out) HC0.out (Kd.C_below HR1.out HB.out) HC1.out (Kd.R_reads' HO.out).2.2 (Kd.R_reads' HO.out).2.1 HV.out).mono ?_);rintro e w5 ⟨rfl,hb⟩;refine ⟨_,rfl,?_⟩;have HO5:=aA.mk (Kd.R_below HO.out hb);have HB5:=aA.mk (aE HB.out hb);clear hb)|((with_reducible refine cM (b := .append) (xs:=#[.tmp 15,.tmp 21]) rfl ?_);at_builtin;refine Kd.R_append (Kd.int .i64) (w0:=w) w.heap.size rfl (.tmp 15) (.tmp 21) 31 3 (.int .i64 0) 8 rfl Try.underlying31 info3 rfl (by decide) (by omega) (.slice Av vals.length cv) vals v [.int .i64 v] (fun _=>True) (fun _=>False) rfl rfl ?aP (fun _ hk=>hk.elim) ?aF ?aO ?aB ?aS ?aL ?_;(case aP=>exact rfl);(case aB=>exact (by repeat (first|(with_reducible first|exact HB5.out|apply bS|apply aV|apply bQ)|exact HB5.out)));(case aF=>exact (fun _ _=>trivial));(case aO=>exact (ra HO5));(case aS=>exact (aM (by repeat (first|(with_reducible first|exact HB5.out|apply bS|apply aV|apply bQ)|exact HB5.out))));(case aL=>have:=LM.out;omega);intro v105 w6 ho hb hg hat;have HB6:=aA.mk hb;have HO6:=aA.mk ho;clear ho hb hg hat));go_roundg k1
   case measure=>have:=HK1.out;omega
   case rel=>exact ⟨wrap64 (i + 1),vals ++ [v],(by first|rfl|(simp;done)),H',⟨by have:=HK1.out;omega⟩,HO6,HB6⟩
  ·rw [if_neg c3] at H;have d3:decide (i≤a2)=false:=decide_eq_false c3;clear c3
   by_cases c6:0≤a2∧a2 < (vals.length:Int)
   case neg=>rw [if_neg c6] at H;cases H
   rw [if_pos c6] at H;obtain rfl:=os H;obtain ⟨ad1,e_,hy⟩:=Kd.at_int (Kd.R_reads' HO.out).2.2 _ c6.1 c6.2;cases e_;obtain ⟨c6,c7⟩:=c6;have d6:decide (0≤a2)=true:=decide_eq_true c6;have d7:decide (a2 < (vals.length:Int))=true:=decide_eq_true c7;replace c6:=eq_true c6;replace c7:=eq_true c7;clear H;go_wp2;go_ret;exact ⟨rfl,HB.out⟩
def dH.l0:Nat→List (eE)→Int→Int→Option (Int)
 | 0,_,_,_=>none
 | k + 1,x0,x3,x4=>if x4 < (x0.length:Int) then (if 0≤x4 then ((bD.f ((aI x0 x4).f2) 1 8).bind fun A3=>(if A3=true then (dH.l0 k x0 (wrap64 (x3 + ((aI x0 x4).f2))) (wrap64 (x4 + 1))) else (some 13))) else (none)) else (some x3)
def dH.f (k:Nat) (l0:List (eE)):Option (Int):=dH.l0 k l0 0 0
theorem dH.calls (k:Nat) (A0:Option Addr) (c0:Nat) (l0:List (eE)) (r:Int) (w:World) (hr0:Kd.C jU w A0 l0.length l0) (hc0:l0.length≤c0) (h:dH.f k l0=some r) :
  Calls Try.prog 80 #[.slice A0 l0.length c0] w fun e w'=>e = .returned (.int .i64 r)∧bT w w':=by
 have HR0:=aA.mk hr0;have HC0:=aA.mk hc0;clear hr0 hc0;have H:(dH.l0 k l0 0 0)=some r:=h;clear h;have H':=aA.mk H;clear H
 go_enter Try.func80,Try.ntmps80
 go_wp2
 go_loopg [3,4] k (fun kq v3 v4 w'=>∃ (A2:Int) (A1:Int),v3 = .int .i64 A2∧v4 = .int .i64 A1∧aA (dH.l0 kq l0 A2 A1=some r)∧aA (kq≤k)∧bT w w')
 case atStart=>exact ⟨(0),(0),(by first|rfl|(simp;done)|(simp [*];done)),(by first|rfl|(simp;done)|(simp [*];done)),H',⟨Nat.le_refl _⟩,by repeat (first|exact bT.refl _|apply bT.step)⟩
 case round =>
  clear H';obtain ⟨A2,A1,rfl,rfl,HA,HK1,⟨m1,rfl⟩⟩:=hrel
  cases gk with
  | zero=>exact absurd HA.out (by simp [dH.l0])
  | succ k1 =>
   have H:=HA.out;clear HA;simp only [dH.l0] at H
   by_cases c2:A1 < (l0.length:Int)
   ·rw [if_pos c2] at H;have c2b0:decide (A1 < (l0.length:Int))=true:=decide_eq_true c2;clear c2
    by_cases c3:0≤A1
    ·rw [if_pos c3] at H;have c3b0:decide (0≤A1)=true:=decide_eq_true c3;clear c3;replace H:=ob H;obtain ⟨A3,A40,H⟩:=H
     try dsimp only at H
     have A4:=aA.mk A40;clear A40
     by_cases c5:A3=true
     ·subst c5
      have H1:(dH.l0 k1 l0 (wrap64 (A2 + ((aI l0 A1).f2))) (wrap64 (A1 + 1)))=some r:=by rw [if_pos rfl] at H;exact H
      clear H;have H:=H1;clear H1;have H':=aA.mk H;clear H;have p101:0≤(A1:Int):=od;have q101:A1 < (l0.length:Int):=od;obtain ⟨ad101,e101,hx101_0,hx101_1,hx101_2⟩:=gT HR0.out A1 p101 q101;cases e101;replace p101:=eq_true p101;replace q101:=eq_true q101;go_wp2_with (first|((with_reducible refine aD (f:=69) rfl ?_);refine aT (some 16) rfl rfl Try.func69 (by kernel_rfl) rfl #[.int .i64 ((aI l0 A1).f2),.int .i64 1,.int .i64 8] rfl ml ?_;(with_reducible refine (bD.calls ((aI l0 A1).f2) 1 8 true _ A4.out).mono ?_);rintro e w' ⟨rfl,⟨nd,rfl⟩⟩;refine ⟨_,rfl,?_⟩;have p103:0≤(A1:Int):=od;have q103:A1 < (l0.length:Int):=od;obtain ⟨ad103,e103,hx103_0,hx103_1,hx103_2⟩:=gT HR0.out A1 p103 q103;obtain rfl:ad101=ad103:=(by injection e103);replace p103:=eq_true p103;replace q103:=eq_true q103));go_roundg k1
      case measure=>have:=HK1.out;omega
      case rel=>exact ⟨(wrap64 (A2 + ((aI l0 A1).f2))),(wrap64 (A1 + 1)),(by first|rfl|(simp;done)|(simp [*];done)),(by first|rfl|(simp;done)|(simp [*];done)),H',⟨by have:=HK1.out;omega⟩,by repeat (first|exact bT.refl _|apply bT.step)⟩
     ·replace c5:=Bool.eq_false_iff.mpr c5;subst c5
      have H1:(some 13)=some r:=by rw [if_neg (show ¬ (false=true) by decide)] at H;exact H
      clear H;have H:=H1;clear H1;obtain rfl:=os H;have p101:0≤(A1:Int):=od;have q101:A1 < (l0.length:Int):=od;obtain ⟨ad101,e101,hx101_0,hx101_1,hx101_2⟩:=gT HR0.out A1 p101 q101;cases e101;replace p101:=eq_true p101;replace q101:=eq_true q101;go_wp2_with (first|((with_reducible refine aD (f:=69) rfl ?_);refine aT (some 16) rfl rfl Try.func69 (by kernel_rfl) rfl #[.int .i64 ((aI l0 A1).f2),.int .i64 1,.int .i64 8] rfl ml ?_;(with_reducible refine (bD.calls ((aI l0 A1).f2) 1 8 false _ A4.out).mono ?_);rintro e w' ⟨rfl,⟨nd,rfl⟩⟩;refine ⟨_,rfl,?_⟩));go_ret;exact ⟨e1,dn⟩
    ·rw [if_neg c3] at H;exact absurd H (by simp)
   ·rw [if_neg c2] at H;have c2b0:decide (A1 < (l0.length:Int))=false:=decide_eq_false c2;clear c2;obtain rfl:=os H;go_wp2;go_ret;exact ⟨e1,dn⟩
mutual
def bJ.j0:Nat→List (eE)→List (bN)→Int→Bool→Option (Int × ByteArray × Bool)
 | 0,_,_,_,_=>none
 | k + 1,x0,x1,x6,x21=>if x21=true then (some (0,(⟨#[]⟩:ByteArray),false)) else ((cU.f k).bind fun Ae=>(bJ.l0 k x0 x1 x6 (([]:List Int)) Ae 0))
def bJ.l0:Nat→List (eE)→List (bN)→Int→List Int→List Int→Int→Option (Int × ByteArray × Bool)
 | 0,_,_,_,_,_,_=>none
 | k + 1,x0,x1,x6,x7,x8,x9=>(aH.f k x6).bind fun Ah=>(if x9 < Ah then (bJ.l1 k x0 x1 x6 x7 x8 x9 x6 0) else (some (x6,strOfNums x7,true)))
def bJ.l1:Nat→List (eE)→List (bN)→Int→List Int→List Int→Int→Int→Int→Option (Int × ByteArray × Bool)
 | 0,_,_,_,_,_,_,_,_=>none
 | k + 1,x0,x1,x6,x7,x8,x9,x10,x11=>if x11 < (x0.length:Int) then (if 0≤x11 then ((aH.f k (wrap64 (x10 - ((aI x0 x11).f2)))).bind fun Af=>(if Af=0 then (none) else ((aH.f k ((aI x0 x11).f2)).bind fun Ag=>(if Ag=0 then (none) else (if 0≤((aI x0 x11).f1) then (if ((aI x0 x11).f1) < (x8.length:Int) then (bJ.l1 k x0 x1 x6 x7 (x8.set (((aI x0 x11).f1):Int).toNat (Int.tmod (wrap64 (Int.tdiv x9 Af)) Ag)) x9 (wrap64 (x10 - ((aI x0 x11).f2))) (wrap64 (x11 + 1))) else (none)) else (none)))))) else (none)) else ((eX.f k x1 x8 (wrap64 ((x1.length:Int) - 1))).bind fun Aj=>(if x7.length < 140737488355328 then (bJ.l0 k x0 x1 x6 (x7 ++ [(wrap64 (48 + Aj)) % 256]) x8 (wrap64 (x9 + 1))) else (none)))
end
def bJ.f (k:Nat) (l0:List (eE)) (l1:List (bN)):Option (Int × ByteArray × Bool):=(dH.f k l0).bind fun A5=>((bW.f k l0 l1).bind fun Ak=>(if Ak=true then (bJ.j0 k l0 l1 A5 (decide (A5 > 12))) else (bJ.j0 k l0 l1 A5 true)))
def bJ.T14:Bool × List (List Nat × List Nat):=(true,[([],[]),([],[]),([],[]),([1,2],[1,2]),([3],[3]),([4],[4]),([],[]),([],[]),([7],[7]),([6,8],[6,8]),([],[]),([],[]),([10,11],[10,11]),([12],[12]),([13],[13]),([14,8],[14]),([9,15],[9,15]),([0,5,0,1,2,3,4,5,6,7,8,9,10,11,12,13,14,15,16],[0,5]),([17,16,15,0,1,2,3,4,5,6,7,8,9,10,11,12,13,14,15,16],[16,17])])
def bJ.B14:List Nat:=[0,0,0,6,14,30,0,0,128,448,0,0,3072,7168,15360,32128,65472,131071,262143]
theorem bJ.tab14:hG .any (tU Try.f34 14)=bJ.T14:=by kernel_rfl
theorem bJ.bits14:iE bJ.T14.2 bJ.B14=true:=by kernel_rfl
theorem bJ.calls (k:Nat) (A0:Option Addr) (c0:Nat) (l0:List (eE)) (A1:Option Addr) (c1:Nat) (l1:List (bN)) (r1:Int) (r2:ByteArray) (r3:Bool) (w:World) (hr0:Kd.C jU w A0 l0.length l0) (hc0:l0.length≤c0) (hr1:Kd.C eV w A1 l1.length l1) (hc1:l1.length≤c1) (h:bJ.f k l0 l1=some (r1,r2,r3)) :
  Calls Try.prog 34 #[.slice A0 l0.length c0,.slice A1 l1.length c1] w fun e w'=>e = .returned (.tuple #[.agg #[.int .i64 r1,.string r2],.bool r3])∧Below w.heap.size w w':=by
 have hu26:=Try.underlying26;have HR0:=aA.mk hr0;have HC0:=aA.mk hc0;clear hr0 hc0;have HR1:=aA.mk hr1;have HC1:=aA.mk hc1;clear hr1 hc1;have HB:=aA.mk (Below.refl w.heap.size w);have H:((dH.f k l0).bind fun A5=>((bW.f k l0 l1).bind fun Ak=>(if Ak=true then (bJ.j0 k l0 l1 A5 (decide (A5 > 12))) else (bJ.j0 k l0 l1 A5 true))))=some (r1,r2,r3):=h;clear h;replace H:=ob H;obtain ⟨A5,A30,H⟩:=H
 try dsimp only at H
 have A3:=aA.mk A30;clear A30;have HC4:=aA.mk H;clear H
 go_enter Try.func34,Try.ntmps34
 go_upto_region 2 with (first|((with_reducible refine bM (N:=4) rfl ?_);refine bx (N:=4) (cs:=#[.int .i64 0,.string (⟨#[]⟩:ByteArray)]) (t:=26) ?_;intro A7 hg w5 hbox hb;have A4:=aA.mk (hbox);have GW101:=aA.mk ((by rw [hg];exact (aM (tb HB)):w.heap.size≤A7));have An:=aA.mk ((by rw [hg];exact (aM (tb HB)):w.heap.size≤A7));replace HB:=aA.mk (aE (tb HB) hb);clear hb hbox hg)|((with_reducible refine aD (f:=80) rfl ?_);refine aT (some 13) rfl rfl Try.func80 (by kernel_rfl) rfl #[.slice A0 l0.length c0] rfl ml ?_;(with_reducible refine (dH.calls k _ _ l0 A5 _ ?side1 ?side2 A3.out).mono ?_);(case side1=>exact cw (Kd.C_below HR0.out HB.out));(case side2=>exact HC0.out);rintro e w' ⟨rfl,⟨nd,rfl⟩⟩;refine ⟨_,rfl,?_⟩))
 (try simp only [Act.put,List.setIfInBounds_toArray,List.set_cons_zero,List.set_cons_succ])
 go_cut [21] (fun v21 wc=>∃ (kq:Nat) (Ai:Bool),v21 = .bool Ai∧aA (bJ.j0 kq l0 l1 A5 Ai=some (r1,r2,r3))∧aA (kq≤k)∧aA (wc.heap[A7]? = some (.cells #[.int .i64 0,.string (⟨#[]⟩:ByteArray)] 26 (0,0)))∧aA (Below w.heap.size w wc))
 case first =>
  have H:=HC4.out;clear HC4;replace H:=ob H;obtain ⟨Ak,A60,H⟩:=H;replace H:(if Ak=true then (bJ.j0 k l0 l1 A5 (decide (A5 > 12))) else (bJ.j0 k l0 l1 A5 true))=some (r1,r2,r3):=H;have A6:=aA.mk A60;clear A60
  by_cases c7:Ak=true
  ·subst c7
   have H1:(bJ.j0 k l0 l1 A5 (decide (A5 > 12)))=some (r1,r2,r3):=by rw [if_pos rfl] at H;exact H
   clear H;have H:=H1;clear H1;have H':=aA.mk H;clear H;go_wp2_with (first|((with_reducible refine aD (f:=81) rfl ?_);refine aT (some 16) rfl rfl Try.func81 (by kernel_rfl) rfl #[.slice A0 l0.length c0,.slice A1 l1.length c1] rfl ml ?_;(with_reducible refine (bW.calls k _ _ l0 _ _ l1 true _ ?side1 ?side2 ?side3 ?side4 A6.out).mono ?_);(case side1=>exact cw (Kd.C_below HR0.out HB.out));(case side2=>exact HC0.out);(case side3=>exact cw (Kd.C_below HR1.out HB.out));(case side4=>exact HC1.out);rintro e w8 ⟨rfl,hb⟩;refine ⟨_,rfl,?_⟩;replace A4:=aA.mk (aQ (g:=A7) (o := .cells #[.int .i64 0,.string (⟨#[]⟩:ByteArray)] 26 (0,0)) (dr A4) hb);replace HB:=aA.mk (aE (tb HB) hb);(try clear hb);(try clear hb2);(try clear hk);(try clear hi)));go_meet
   case rel=>exact ⟨_,(decide (A5 > 12)),(by first|rfl|(simp;done)|(simp [*];done)),H',⟨by first|omega|exact Nat.le_refl _⟩,⟨dr A4⟩,⟨by exact tb HB⟩⟩
  ·replace c7:=Bool.eq_false_iff.mpr c7;subst c7
   have H1:(bJ.j0 k l0 l1 A5 true)=some (r1,r2,r3):=by rw [if_neg (show ¬ (false=true) by decide)] at H;exact H
   clear H;have H:=H1;clear H1;have H':=aA.mk H;clear H;go_wp2_with (first|((with_reducible refine aD (f:=81) rfl ?_);refine aT (some 16) rfl rfl Try.func81 (by kernel_rfl) rfl #[.slice A0 l0.length c0,.slice A1 l1.length c1] rfl ml ?_;(with_reducible refine (bW.calls k _ _ l0 _ _ l1 false _ ?side1 ?side2 ?side3 ?side4 A6.out).mono ?_);(case side1=>exact cw (Kd.C_below HR0.out HB.out));(case side2=>exact HC0.out);(case side3=>exact cw (Kd.C_below HR1.out HB.out));(case side4=>exact HC1.out);rintro e w9 ⟨rfl,hb⟩;refine ⟨_,rfl,?_⟩;replace A4:=aA.mk (aQ (g:=A7) (o := .cells #[.int .i64 0,.string (⟨#[]⟩:ByteArray)] 26 (0,0)) (dr A4) hb);replace HB:=aA.mk (aE (tb HB) hb);(try clear hb);(try clear hb2);(try clear hk);(try clear hi)));go_meet
   case rel=>exact ⟨_,(true),(by first|rfl|(simp;done)|(simp [*];done)),H',⟨by first|omega|exact Nat.le_refl _⟩,⟨dr A4⟩,⟨by exact tb HB⟩⟩
 case rest =>
  clear HC4;obtain ⟨kq,Ai,rfl,HA,HJ3,A4,HB⟩:=hcut
  cases kq with
  | zero=>exact absurd HA.out (by simp [bJ.j0])
  | succ kj3 =>
   have H:=HA.out;clear HA;simp only [bJ.j0] at H
   by_cases c10:Ai=true
   ·subst c10
    have H1:(some (0,(⟨#[]⟩:ByteArray),false))=some (r1,r2,r3):=by rw [if_pos rfl] at H;exact H
    clear H;have H:=H1;clear H1;simp only [Option.some.injEq,Prod.mk.injEq] at H;obtain ⟨rfl,rfl,rfl⟩:=H;have hcz11__:=lP A4;have hfz11__:=f_ A4;go_wp2;refine bodyPost_ret (iS rfl _ _ A7 26 #[.int .i64 0,.string (⟨#[]⟩:ByteArray)] (0,0) _ rfl (by (with_reducible repeat (first|refine bH ?_ _|refine bE ?_|refine bK ?_ _));refine bF (cs:=#[.int .i64 0,.string (⟨#[]⟩:ByteArray)]) ?_ 1 _ rfl;(with_reducible repeat (first|refine bH ?_ _|refine bE ?_|refine bK ?_ _));refine bF (cs:=#[.int .i64 0,.string (⟨#[]⟩:ByteArray)]) ?_ 0 _ rfl;(with_reducible repeat (first|refine bH ?_ _|refine bE ?_|refine bK ?_ _));exact A4.out) Try.underlying26 rfl (by kernel_rfl)) rfl ?_;exact ⟨er,tb HB⟩
   ·replace c10:=Bool.eq_false_iff.mpr c10;subst c10
    have H1:((cU.f kj3).bind fun Ae=>(bJ.l0 kj3 l0 l1 A5 (([]:List Int)) Ae 0))=some (r1,r2,r3):=by rw [if_neg (show ¬ (false=true) by decide)] at H;exact H
    clear H;have H:=H1;clear H1;obtain ⟨y104,hy104⟩:∃ y_:List Int,y_=(([]:List Int)):=⟨_,rfl⟩;replace H:((cU.f kj3).bind fun Ae=>(bJ.l0 kj3 l0 l1 A5 y104 Ae 0))=some (r1,r2,r3):=gM hy104 H;have Ny104:=aA.mk hy104;clear hy104;replace H:=ob H;obtain ⟨Ae,A120,H⟩:=H;replace H:(bJ.l0 kj3 l0 l1 A5 y104 Ae 0)=some (r1,r2,r3):=H;have A12:=aA.mk A120;clear A120;have H':=aA.mk H;clear H;go_wp2_with (first|((with_reducible refine bM (N:=23) rfl ?_);refine Kd.R_lit (Kd.int .u8) _ 5 ?hg (N:=23) ?hd (xs:=([]:List Int)) (inner:=[]) (ok:=fun _=>True) (okp:=fun _=>True) ?hr ?hp (fun _ hk=>hk) trivial (Below.refl _ _) (Nat.le_refl _) (by simp) ?_;(case hd=>rfl);(case hg=>rfl);(case hr=>first|(go_simp;done)|(go_simp;rfl));(case hp=>exact (cP.none _ _));intro v105 w13 ho14 hb hg_ hnew_;clear hg_ hnew_;(first|rw [← Ny104.out] at ho14|(simp only [Int.reduceToNat] at ho14;rw [← Ny104.out] at ho14));have Am:=aA.mk (Kd.R_lower ho14 (aM (tb HB)));replace A4:=aA.mk (aQ (g:=A7) (o := .cells #[.int .i64 0,.string (⟨#[]⟩:ByteArray)] 26 (0,0)) (dr A4) hb);replace HB:=aA.mk (aE (tb HB) hb);clear hb ho14)|((with_reducible refine aD (f:=82) rfl ?_);refine aT (some 24) rfl rfl Try.func82 (by kernel_rfl) rfl #[] rfl ml ?_;(with_reducible refine (cU.calls kj3  Ae _ A12.out).mono ?_);rintro e w15 ⟨v108,rfl,ho0,hb⟩;refine ⟨_,rfl,?_⟩;replace Am:=aA.mk (Kd.R_below (ra Am) hb);have Ao:=aA.mk (Kd.R_lower ho0 (aM (tb HB)));replace A4:=aA.mk (aQ (g:=A7) (o := .cells #[.int .i64 0,.string (⟨#[]⟩:ByteArray)] 26 (0,0)) (dr A4) hb);replace HB:=aA.mk (aE (tb HB) hb);(try clear hb);(try clear hb2);(try clear hk);(try clear hi);(try clear ho0)))
    go_loopg [7,9] kj3 (fun kq v7 v9 w'=>∃ (Ab:List Int) (Al:List Int) (Aa:Int),v9 = .int .i64 Aa∧aA (bJ.l0 kq l0 l1 A5 Ab Al Aa=some (r1,r2,r3))∧aA (kq≤kj3)∧aA (Kd.R (Kd.int .u8) 5 w' w.heap.size (fun _=>True) v7 Ab)∧aA (Kd.R (Kd.int .i64) 3 w' w.heap.size (fun _=>True) v108 Al)∧aA (w'.heap[A7]? = some (.cells #[.int .i64 0,.string (⟨#[]⟩:ByteArray)] 26 (0,0)))∧aA (Below w.heap.size w w'))
    case atStart=>exact ⟨(y104),(Ae),(0),(by first|rfl|(simp;done)|(simp [*];done)),H',⟨Nat.le_refl _⟩,⟨ra Am⟩,⟨ra Ao⟩,⟨dr A4⟩,⟨by exact tb HB⟩⟩
    case round =>
     clear H';obtain ⟨Ab,Al,Aa,rfl,HA,HK2,A9,A8,A4,HB⟩:=hrel
     cases gk with
     | zero=>exact absurd HA.out (by simp [bJ.l0])
     | succ k2 =>
      have H:=HA.out;clear HA;simp only [bJ.l0] at H;replace H:=ob H;obtain ⟨Ah,A160,H⟩:=H;replace H:(if Aa < Ah then (bJ.l1 k2 l0 l1 A5 Ab Al Aa A5 0) else (some (A5,strOfNums Ab,true)))=some (r1,r2,r3):=H;have A16:=aA.mk A160;clear A160
      by_cases c17:Aa < Ah
      ·rw [if_pos c17] at H;have c17b0:decide (Aa < Ah)=true:=decide_eq_true c17;clear c17;have H':=aA.mk H;clear H;go_wp2_with (first|((with_reducible refine aD (f:=70) rfl ?_);refine aT (some 27) rfl rfl Try.func70 (by kernel_rfl) rfl #[.int .i64 A5] rfl ml ?_;(with_reducible refine (aH.calls k2 A5 Ah _ A16.out).mono ?_);rintro e w' ⟨rfl,⟨nd,rfl⟩⟩;refine ⟨_,rfl,?_⟩))
       go_loopg [10,11] k2 (fun kq v10 v11 w'=>∃ (Ac:List Int) (Ad:Int) (A2:Int),v10 = .int .i64 Ad∧v11 = .int .i64 A2∧aA (bJ.l1 kq l0 l1 A5 Ab Ac Aa Ad A2=some (r1,r2,r3))∧aA (kq≤k2)∧aA (Kd.R (Kd.int .u8) 5 w' w.heap.size (fun _=>True) u7 Ab)∧aA (Kd.R (Kd.int .i64) 3 w' w.heap.size (fun _=>True) v108 Ac)∧aA (w'.heap[A7]? = some (.cells #[.int .i64 0,.string (⟨#[]⟩:ByteArray)] 26 (0,0)))∧aA (Below w.heap.size w w'))
       case atStart=>exact ⟨(Al),(A5),(0),(by first|rfl|(simp;done)|(simp [*];done)),(by first|rfl|(simp;done)|(simp [*];done)),H',⟨Nat.le_refl _⟩,⟨ra A9⟩,⟨ra A8⟩,⟨dr A4⟩,⟨by exact tb HB⟩⟩
       case round =>
        clear H';obtain ⟨Ac,Ad,A2,rfl,rfl,HA,HK3,A9,A8,A4,HB⟩:=hrel
        cases gk with
        | zero=>exact absurd HA.out (by simp [bJ.l1])
        | succ k3 =>
         have H:=HA.out;clear HA;simp only [bJ.l1] at H
         by_cases c18:A2 < (l0.length:Int)
         ·rw [if_pos c18] at H;have c18b0:decide (A2 < (l0.length:Int))=true:=decide_eq_true c18;clear c18
          by_cases c19:0≤A2
          ·rw [if_pos c19] at H;have c19b0:decide (0≤A2)=true:=decide_eq_true c19;clear c19;replace H:=ob H;obtain ⟨Af,A200,H⟩:=H
           try dsimp only at H
           have A20:=aA.mk A200;clear A200
           by_cases c21:Af=0
           ·rw [if_pos c21] at H;exact absurd H (by simp)
           ·rw [if_neg c21] at H;have c21b0:(Af == 0)=false:=beq_eq_false_iff_ne.mpr c21;have c21b1:(Af != 0)=true:=bne_iff_ne.mpr c21;replace H:=ob H;obtain ⟨Ag,A220,H⟩:=H
            try dsimp only at H
            have A22:=aA.mk A220;clear A220
            by_cases c23:Ag=0
            ·rw [if_pos c23] at H;exact absurd H (by simp)
            ·rw [if_neg c23] at H;have c23b0:(Ag == 0)=false:=beq_eq_false_iff_ne.mpr c23;have c23b1:(Ag != 0)=true:=bne_iff_ne.mpr c23
             by_cases c24:0≤((aI l0 A2).f1)
             ·rw [if_pos c24] at H;have c24b0:decide (0≤((aI l0 A2).f1))=true:=decide_eq_true c24;clear c24
              by_cases c25:((aI l0 A2).f1) < (Ac.length:Int)
              ·rw [if_pos c25] at H;have c25b0:decide (((aI l0 A2).f1) < (Ac.length:Int))=true:=decide_eq_true c25;clear c25;obtain ⟨y116,hy116⟩:∃ y_:List Int,y_=(Ac.set (((aI l0 A2).f1):Int).toNat (Int.tmod (wrap64 (Int.tdiv Aa Af)) Ag)):=⟨_,rfl⟩;replace H:(bJ.l1 k3 l0 l1 A5 Ab y116 Aa (wrap64 (Ad - ((aI l0 A2).f2))) (wrap64 (A2 + 1)))=some (r1,r2,r3):=gM hy116 H;have Ny116:=aA.mk hy116;clear hy116;have H':=aA.mk H;clear H;have p111:0≤(A2:Int):=od;have q111:A2 < (l0.length:Int):=od;obtain ⟨ad111,e111,hx111_0,hx111_1,hx111_2⟩:=gT HR0.out A2 p111 q111;cases e111;replace hx111_0:=ct HB hx111_0;replace hx111_1:=ct HB hx111_1;replace hx111_2:=ct HB hx111_2;replace p111:=eq_true p111;replace q111:=eq_true q111
               try go_wp2
               have n0_:=aA.mk (Kd.R_drew A9.out);have n1_:=aA.mk (Kd.R_drew A8.out);have n2_:=aA.mk (bE A4.out);have n3_:=aA.mk (bQ HB.out);clear A9;clear A8;clear A4;clear HB;have A9:=n0_;have A8:=n1_;have A4:=n2_;have HB:=n3_;clear n0_ n1_ n2_ n3_;have p112:0≤(A2:Int):=od;have q112:A2 < (l0.length:Int):=od;obtain ⟨ad112,e112,hx112_0,hx112_1,hx112_2⟩:=gT HR0.out A2 p112 q112;have hw112_2:=hx112_2;have hw112_1:=hx112_1;have hw112_0:=hx112_0;obtain rfl:ad111=ad112:=(by injection e112);replace hx112_0:=ct HB hx112_0;replace hx112_1:=ct HB hx112_1;replace hx112_2:=ct HB hx112_2;replace p112:=eq_true p112;replace q112:=eq_true q112;have p114:0≤(A2:Int):=od;have q114:A2 < (l0.length:Int):=od;obtain ⟨ad114,e114,hx114_0,hx114_1,hx114_2⟩:=gT HR0.out A2 p114 q114;have hw114_2:=hx114_2;have hw114_1:=hx114_1;have hw114_0:=hx114_0;obtain rfl:ad111=ad114:=(by injection e114);replace hx114_0:=ct HB hx114_0;replace hx114_1:=ct HB hx114_1;replace hx114_2:=ct HB hx114_2;replace p114:=eq_true p114;replace q114:=eq_true q114;refine eW (n:=19) (S:=fun w'=>w'.cell? (ad111.add ((A2).toNat * 3))=some (.bool ((aI l0 A2).f0))∧w'.cell? ⟨(ad111.add ((A2).toNat * 3)).block,(ad111.add ((A2).toNat * 3)).off + 1,none⟩=some (.int .i64 ((aI l0 A2).f1))∧w'.cell? ⟨(ad111.add ((A2).toNat * 3)).block,(ad111.add ((A2).toNat * 3)).off + 2,none⟩=some (.int .i64 ((aI l0 A2).f2))∧w'.cell? (ad111.add ((A2).toNat * 3))=some (.bool ((aI l0 A2).f0))∧w'.cell? ⟨(ad111.add ((A2).toNat * 3)).block,(ad111.add ((A2).toNat * 3)).off + 1,none⟩=some (.int .i64 ((aI l0 A2).f1))∧w'.cell? ⟨(ad111.add ((A2).toNat * 3)).block,(ad111.add ((A2).toNat * 3)).off + 2,none⟩=some (.int .i64 ((aI l0 A2).f2))) (ds:=[18]) (tf 0 19) (by kernel_rfl) rfl rfl ⟨(ct HB hw112_0 :),(ct HB hw112_1 :),(ct HB hw112_2 :),(ct HB hw114_0 :),(ct HB hw114_1 :),(ct HB hw114_2 :)⟩ (fun hHeld=>?_);refine jS bJ.tab14 bJ.bits14 (fun HT_ HW_=>?_);generalize wr.drew=w27 at A9 A8 A4 HB hx112_0 hx112_1 hx112_2 hx114_0 hx114_1 hx114_2 hHeld ⊢;refine kW HT_ 0 45 (tf 1 18) ?_;refine kW HT_ 1 46 (tf 2 17) ?_;refine kW HT_ 2 47 (tf 3 16) ?_;refine kW HT_ 3 48 (tf 4 15) ?_;refine kW HT_ 4 49 (tf 5 14) ?_;refine kW HT_ 6 51 #[true,true,true,true,true,false,true,false,false,false,false,false,false,false,false,false,false,false,false] ?_;refine kW HT_ 7 52 #[true,true,true,true,true,false,true,true,false,false,false,false,false,false,false,false,false,false,false] ?_;refine kW HT_ 10 55 #[true,true,true,true,true,false,true,true,false,false,true,false,false,false,false,false,false,false,false] ?_;refine kW HT_ 11 56 #[true,true,true,true,true,false,true,true,false,false,true,true,false,false,false,false,false,false,false] ?_;refine kW HT_ 12 57 #[true,true,true,true,true,false,true,true,false,false,true,true,true,false,false,false,false,false,false] ?_;refine kW HT_ 13 58 #[true,true,true,true,true,false,true,true,false,false,true,true,true,true,false,false,false,false,false] ?_;refine xP HT_ HW_ 5 50 #[true,true,true,true,true,true,true,true,false,false,true,true,true,true,false,false,false,false,false] hHeld ?_;refine xP HT_ HW_ 14 59 #[true,true,true,true,true,true,true,true,false,false,true,true,true,true,true,false,false,false,false] hHeld ?_;refine fZ (i:=8) (N:=some 53) #[true,true,true,true,true,true,true,true,true,false,true,true,true,true,true,false,false,false,false] rfl rfl (iO HT_.out (by kernel_rfl)) (by decide) (fun K hK=>?_);refine fV Try.func70 (by kernel_rfl) rfl #[.int .i64 (wrap64 (Ad - ((aI l0 A2).f2)))] (by rfl) rfl rfl ml ?_
               with_reducible refine (aH.calls k3 (wrap64 (Ad - ((aI l0 A2).f2))) Af _ A20.out).mono ?_
               rintro e w' ⟨rfl,⟨nd,rfl⟩⟩;refine ⟨_,rfl,?_⟩;refine hK.out _ _ ⟨(ct HB hw112_0 :),(ct HB hw112_1 :),(ct HB hw112_2 :),(ct HB hw114_0 :),(ct HB hw114_1 :),(ct HB hw114_2 :)⟩ (fun hHeld=>?_);clear hK K;refine dZ (a':=?_) ?_ ?_;rotate_left
               ·show Act.put _ (some 53) _=_
                simp only [Act.put,s1,s2,s3,aJ,aK];rfl
               refine kW HT_ 9 54 (tf 15 4) ?_;refine fZ (i:=15) (N:=some 60) (tf 16 3) rfl rfl (iO HT_.out (by kernel_rfl)) (by decide) (fun K hK=>?_);refine fV Try.func70 (by kernel_rfl) rfl #[.int .i64 ((aI l0 A2).f2)] (by rfl) rfl rfl ml ?_
               with_reducible refine (aH.calls k3 ((aI l0 A2).f2) Ag _ A22.out).mono ?_
               rintro e w' ⟨rfl,⟨nd,rfl⟩⟩;refine ⟨_,rfl,?_⟩;have p26:0≤(((aI l0 A2).f1):Int):=od;have q26:(((aI l0 A2).f1):Int) < ((Ac.length:Int):Int):=od;obtain ⟨go26,co26,eo26,Ap,gl26,cl26,HG26⟩:=Kd.R_form A8.out (by omega);(first|cases eo26|(injection eo26 with ea_ en_ ec_;(first|subst ea_|(injection ea_ with ea_;subst ea_));subst ec_;clear en_));have GB26:=aA.mk Ap;have GG26:=aA.mk HG26;clear Ap gl26 HG26;obtain ⟨hx26_0,hf26_0⟩:=Kd.R_celln 0 A8.out (((aI l0 A2).f1):Int) p26 q26;replace p26:=eq_true p26;replace q26:=eq_true q26;have HP28:=Kd.R_putn A8.out (((aI l0 A2).f1):Int) (Int.tmod (wrap64 (Int.tdiv Aa Af)) Ag);rw [← Ny116.out] at HP28;have HQ28:=aA.mk HP28;clear HP28;refine hK.out _ _ ⟨(ct HB hw112_0 :),(ct HB hw112_1 :),(ct HB hw112_2 :),(ct HB hw114_0 :),(ct HB hw114_1 :),(ct HB hw114_2 :)⟩ (fun hHeld=>?_);clear hK K;refine dZ (a':=?_) ?_ ?_;rotate_left
               ·show Act.put _ (some 60) _=_
                simp only [Act.put,s1,s2,s3,aJ,aK];rfl
               refine kW HT_ 16 61 (tf 17 2) ?_;refine kW HT_ 17 62 (tf 18 1) ?_;refine rK (i:=18) (N:=none) (tf 19 0) rfl rfl (iO HT_.out (by kernel_rfl)) (by decide) (fun K hK=>?_);refine lM (w1:=?_) (by rfl) rfl ?_ ?_;rotate_left
               ·go_simp;rfl
               refine hK.out _ _ ?_;clear hK K;refine gG (lJ HT_.out (by kernel_rfl)) ?_
               try go_wp2
               go_roundg k3
               case measure=>have:=HJ3.out;have:=HK2.out;have:=HK3.out;omega
               case rel=>exact ⟨(y116),(wrap64 (Ad - ((aI l0 A2).f2))),(wrap64 (A2 + 1)),(by first|rfl|(simp;done)|(simp [*];done)),(by first|rfl|(simp;done)|(simp [*];done)),H',⟨by have:=HJ3.out;have:=HK2.out;have:=HK3.out;omega⟩,⟨by exact rfs (Kd.R_types A9.out GG26.out (by decide))⟩,⟨ra HQ28⟩,⟨by (with_reducible repeat (first|refine bH ?_ _|refine bE ?_|refine bK ?_ _));refine dR ?_ (by have h_:=Kd.R_ne A8.out A4.out (by decide);intro e_;exact h_ (by rw [e_];rfl)) _;(with_reducible repeat (first|refine bH ?_ _|refine bE ?_|refine bK ?_ _));exact A4.out⟩,⟨by repeat (first|(with_reducible first|exact HB.out|apply bS|apply aV|apply bQ|refine aZ ?_ GB26.out|refine aZ ?_ An.out)|exact HB.out)⟩⟩
              ·rw [if_neg c25] at H;exact absurd H (by simp)
             ·rw [if_neg c24] at H;exact absurd H (by simp)
          ·rw [if_neg c19] at H;exact absurd H (by simp)
         ·rw [if_neg c18] at H;have c18b0:decide (A2 < (l0.length:Int))=false:=decide_eq_false c18;clear c18;replace H:=ob H;obtain ⟨Aj,A290,H⟩:=H
          try dsimp only at H
          have A29:=aA.mk A290;clear A290
          by_cases c30:Ab.length < 140737488355328
          ·rw [if_pos c30] at H;have LMc30:=aA.mk c30;clear c30;obtain ⟨y118,hy118⟩:∃ y_:List Int,y_=(Ab ++ [(wrap64 (48 + Aj)) % 256]):=⟨_,rfl⟩;replace H:(bJ.l0 k3 l0 l1 A5 y118 Ac (wrap64 (Aa + 1)))=some (r1,r2,r3):=gM hy118 H;have Ny118:=aA.mk hy118;clear hy118;have H':=aA.mk H;clear H;obtain ⟨Ao31,co31,eo31⟩:=Kd.R_slice A8.out;subst eo31;go_wp2_with (first|((with_reducible refine aD (f:=83) rfl ?_);refine aT (some 69) rfl rfl Try.func83 (by kernel_rfl) rfl #[.slice A1 l1.length c1,.slice Ao31 Ac.length co31,.int .i64 (wrap64 ((l1.length:Int) - 1))] rfl ml ?_;(with_reducible refine (eX.calls k3 _ _ l1 _ _ Ac (wrap64 ((l1.length:Int) - 1)) Aj _ ?side1 ?side2 ?side3 ?side4 A29.out).mono ?_);(case side1=>exact cw (Kd.C_below HR1.out HB.out));(case side2=>exact HC1.out);(case side3=>exact cw (Kd.R_reads' A8.out).2.2);(case side4=>exact (Kd.R_reads' A8.out).2.1);rintro e w32 ⟨rfl,hb⟩;refine ⟨_,rfl,?_⟩;replace A9:=aA.mk (Kd.R_below (ra A9) hb);replace A8:=aA.mk (Kd.R_below (ra A8) hb);replace A4:=aA.mk (aQ (g:=A7) (o := .cells #[.int .i64 0,.string (⟨#[]⟩:ByteArray)] 26 (0,0)) (dr A4) hb);replace HB:=aA.mk (aE (tb HB) hb);(try clear hb);(try clear hb2);(try clear hk);(try clear hi))|((with_reducible refine cM (b := .append) (xs:=#[.tmp 63,.tmp 72]) rfl ?_);at_builtin;refine Kd.R_append (Kd.int .u8) (w0:=w) w.heap.size rfl (.tmp 63) (.tmp 72) 22 5 (.int .u8 0) 1 rfl Try.underlying22 aDY rfl (by decide) (by omega) u7 Ab ((wrap64 (48 + Aj)) % 256) [.int .u8 ((wrap64 (48 + Aj)) % 256)] (fun _=>True) (fun _=>False) rfl rfl ?aP (fun _ hk=>hk.elim) ?aF ?aO ?aB ?aS ?aL ?_;(case aP=>exact rfl);(case aB=>exact (tb HB));(case aF=>exact (fun _ _=>trivial));(case aO=>exact (ra A9));(case aS=>exact (aM (tb HB)));(case aL=>have:=LMc30.out;omega);intro v119 w33 ho hb hg hat;rw [← Ny118.out] at ho;replace A8:=aA.mk (Kd.R_over' (ra A8) (Kd.R_typed (ra A9)) (by decide) hg);replace A4:=aA.mk (dO (g:=A7) (o := .cells #[.int .i64 0,.string (⟨#[]⟩:ByteArray)] 26 (0,0)) (dr A4) hg (Kd.R_ne A9.out A4.out (by decide)));replace HB:=aA.mk (hb);have Aq:=aA.mk (ho);clear A9;clear ho hb hg hat));go_roundg k3
           case measure=>have:=HJ3.out;have:=HK2.out;have:=HK3.out;omega
           case rel=>exact ⟨(y118),(Ac),(wrap64 (Aa + 1)),(by first|rfl|(simp;done)|(simp [*];done)),H',⟨by have:=HJ3.out;have:=HK2.out;have:=HK3.out;omega⟩,⟨ra Aq⟩,⟨ra A8⟩,⟨dr A4⟩,⟨by exact tb HB⟩⟩
          ·rw [if_neg c30] at H;exact absurd H (by simp)
      ·rw [if_neg c17] at H;have c17b0:decide (Aa < Ah)=false:=decide_eq_false c17;clear c17;simp only [Option.some.injEq,Prod.mk.injEq] at H;obtain ⟨rfl,rfl,rfl⟩:=H;go_wp2_with (first|((with_reducible refine aD (f:=70) rfl ?_);refine aT (some 27) rfl rfl Try.func70 (by kernel_rfl) rfl #[.int .i64 A5] rfl ml ?_;(with_reducible refine (aH.calls k2 A5 Ah _ A16.out).mono ?_);rintro e w' ⟨rfl,⟨nd,rfl⟩⟩;refine ⟨_,rfl,?_⟩;(try (rw [iQ wr];generalize hq_:World.drewN wr _=wr;have n0_:aA (Kd.R (Kd.int .u8) 5 wr w.heap.size (fun _=>True) u7 Ab):=⟨by rw [← hq_];exact (ra A9)⟩;have n1_:aA (Kd.R (Kd.int .i64) 3 wr w.heap.size (fun _=>True) v108 Al):=⟨by rw [← hq_];exact (ra A8)⟩;have n2_:aA (wr.heap[A7]? = some (.cells #[.int .i64 0,.string (⟨#[]⟩:ByteArray)] 26 (0,0))):=⟨by rw [← hq_];exact (dr A4)⟩;have n3_:aA (Below w.heap.size w wr):=⟨by rw [← hq_];exact (tb HB)⟩;clear A9 A8 A4 HB hq_;have A9:=n0_;have A8:=n1_;have A4:=n2_;have HB:=n3_;clear n0_ n1_ n2_ n3_));have hcv34:=nZ (P:=Try.prog) Try.underlying22 Try.underlying5 Try.underlying9 (Kd.own_of_R A9.out);have hcz35__:=lP A4;have hfz35__:=f_ A4));refine bodyPost_ret (iS rfl _ _ A7 26 #[.int .i64 A5,.string (strOfNums Ab)] (0,0) _ rfl (by (with_reducible repeat (first|refine bH ?_ _|refine bE ?_|refine bK ?_ _));refine bF (cs:=#[.int .i64 A5,.string (⟨#[]⟩:ByteArray)]) ?_ 1 _ rfl;(with_reducible repeat (first|refine bH ?_ _|refine bE ?_|refine bK ?_ _));refine bF (cs:=#[.int .i64 0,.string (⟨#[]⟩:ByteArray)]) ?_ 0 _ rfl;(with_reducible repeat (first|refine bH ?_ _|refine bE ?_|refine bK ?_ _));exact A4.out) Try.underlying26 rfl (by kernel_rfl)) rfl ?_;exact ⟨er,tb HB⟩
end Go.Proofs.Ythipjoioicmcnaa.G
