-- texts of this session, merged by a program of it (wip/gen/pack.py)
import Derived.Test.YthipjoioicmcnaaKFnDecide1
import Derived.Test.YthipjoioicmcnaaKFnDecide6
import Derived.Test.YthipjoioicmcnaaKFnDecide3
import Derived.Test.YthipjoioicmcnaaKFnDecide15
import Derived.Test.YthipjoioicmcnaaKFnDecide7
set_option linter.unusedVariables false
set_option linter.unusedSimpArgs false
set_option maxHeartbeats 80000000
set_option maxRecDepth 100000
namespace Go.Proofs.Ythipjoioicmcnaa.G
open Go.RowKit Go.Proofs.YthipjoioicmcnaaW.PrintWords Go.Proofs.YthipjoioicmcnaaW.PrintLast Go.Proofs.YthipjoioicmcnaaW.PrintMore Go.Proofs.Ythipjoioicmcnaa.Sh
attribute [local go_sem] dP dR eA eB dB dC dQ dS
def prN (pl:List Int) (x:bL) (n:Nat):bL:=⟨x.f0,x.f1,x.f2,if 0 < n then rd pl x.f3 else x.f3,if 1 < n then rd pl x.f4 else x.f4,if 2 < n then rd pl x.f5 else x.f5⟩
abbrev prI (pl:List Int) (x:bL) (n:Nat):Prop:=(0 < n→0≤x.f3∧x.f3 < (pl.length:Int))∧(1 < n→0≤x.f4∧x.f4 < (pl.length:Int))∧(2 < n→0≤x.f5∧x.f5 < (pl.length:Int))
def wM:Nat→List bL→List Bool→List bL→List Int→Int→Option (List bL)
 | 0,_,_,_,_,_=>none
 | k + 1,l,is,out,pl,i=>if i < (l.length:Int) then (if (0≤i∧i < (is.length:Int))∧(pl.length < 17592186044416∧out.length < 2932031007402) then (if cL false is i=true then (cG.f k (aC l i).f0 (aC l i).f1 (aC l i).f2 (aC l i).f3 (aC l i).f4 (aC l i).f5).bind fun ps=>if prI (pl ++ [(out.length:Int)]) (aC l i) ps.length then wM k l is (out ++ [prN (pl ++ [(out.length:Int)]) (aC l i) ps.length]) (pl ++ [(out.length:Int)]) (wrap64 (i + 1)) else none else wM k l is out (pl ++ [(out.length:Int)]) (wrap64 (i + 1))) else none) else some out
def eZ.f (k:Nat) (l0:List bL):Option (List bL):=(cE.f k l0).bind fun t=>if t=true then (bH.f k l0).bind fun is=>wM k l0 is [] [] 0 else some []
theorem eZ.calls (k:Nat) (A0:Option Addr) (c0:Nat) (l0:List (bL)) (r:List (bL)) (w:World) (hr0:Kd.C fL w A0 l0.length l0) (hc0:l0.length≤c0) (h:eZ.f k l0=some r) :
  Calls Try.prog 101 #[.slice A0 l0.length c0] w fun e w'=>∃ v0_:Value,e = .returned (v0_)∧Kd.R fL 99 w' w.heap.size (fun _=>True) v0_ r∧Below w.heap.size w w':=by
 have HR:=aA.mk hr0;have HC:=aA.mk hc0;have HB:=aA.mk (Below.refl w.heap.size w);clear hr0 hc0;unfold eZ.f at h;obtain ⟨t,ht,h⟩:=Option.bind_eq_some_iff.1 h;have HT:=aA.mk ht;clear ht
 cases t with
 | false =>
  rw [if_neg (by decide)] at h;obtain rfl:=Option.some.inj h;clear h
  go_enter Try.func101,Try.ntmps101
  go_wp2_with (first|((with_reducible refine bF (N:=9) rfl ?_);refine Kd.R_lit fL _ 99 ?hg (N:=9) ?hd (xs:=([]:List bL)) (inner:=[]) (ok:=fun _=>True) (okp:=fun _=>True) ?hr ?hp (fun _ hk=>hk) trivial (Below.refl _ _) (Nat.le_refl _) (by simp) ?_;(case hd=>rfl);(case hg=>rfl);(case hr=>first|(go_simp;done)|(go_simp;rfl));(case hp=>exact (cQ.none _ _));intro v9 w1 ho hb hg_ hnew_;clear hg_ hnew_;have HB_:=aA.mk (aE HB.out hb);have HO:=aA.mk (Kd.R_lower ho HB.out.size);clear HB;have HB:=HB_;clear HB_;clear ho hb)|(go_at_call 104;(try simp only [aJ,aN]);(with_reducible refine (cE.calls k A0 c0 l0 _ _ (Kd.C_below HR.out (tb HB)) HC.out HT.out).mono ?_);rintro e w2 ⟨rfl,hb⟩;have HB_:=aA.mk (aE (tb HB) hb);have HO_:=aA.mk (Kd.R_below (ra HO) hb);clear HB HO hb;have HB:=HB_;have HO:=HO_;clear HB_ HO_));go_ret;exact ⟨_,rfl,(ra HO),(tb HB)⟩
 | true =>
 rw [if_pos rfl] at h;obtain ⟨is,hi,h⟩:=Option.bind_eq_some_iff.1 h;have HI:=aA.mk hi;have HL:=aA.mk h;clear hi h
 go_enter Try.func101,Try.ntmps101
 go_wp2_with (first|((with_reducible refine bF (N:=9) rfl ?_);refine Kd.R_lit fL _ 99 ?hg (N:=9) ?hd (xs:=([]:List bL)) (inner:=[]) (ok:=fun _=>True) (okp:=fun _=>True) ?hr ?hp (fun _ hk=>hk) trivial (Below.refl _ _) (Nat.le_refl _) (by simp) ?_;(case hd=>rfl);(case hg=>rfl);(case hr=>first|(go_simp;done)|(go_simp;rfl));(case hp=>exact (cQ.none _ _));intro v9 w1 ho hb hg_ hnew_;clear hg_ hnew_;have HB_:=aA.mk (aE HB.out hb);have HO:=aA.mk (Kd.R_lower ho HB.out.size);clear HB;have HB:=HB_;clear HB_;clear ho hb)|(go_at_call 104;(try simp only [aJ,aN]);(with_reducible refine (cE.calls k A0 c0 l0 _ _ (Kd.C_below HR.out (tb HB)) HC.out HT.out).mono ?_);rintro e w2 ⟨rfl,hb⟩;have HB_:=aA.mk (aE (tb HB) hb);have HO_:=aA.mk (Kd.R_below (ra HO) hb);clear HB HO hb;have HB:=HB_;have HO:=HO_;clear HB_ HO_)|(go_at_call 102;(try simp only [aJ,aN]);(with_reducible refine (bH.calls k A0 c0 l0 _ _ (Kd.C_below HR.out (tb HB)) HC.out HI.out).mono ?_);rintro e w4 ⟨v15,rfl,ho,hb⟩;have HIS:=aA.mk (Kd.R_lower ho (aG (tb HB)));have HB_:=aA.mk (aE (tb HB) hb);have HO_:=aA.mk (Kd.R_below (ra HO) hb);clear HB HO hb ho;have HB:=HB_;have HO:=HO_;clear HB_ HO_)|((with_reducible refine bF (N:=16) rfl ?_);refine Kd.R_lit (Kd.int .i64) _ 3 ?hg (N:=16) ?hd (xs:=([]:List Int)) (inner:=[]) (ok:=fun _=>True) (okp:=fun _=>True) ?hr ?hp (fun _ hk=>hk) trivial (Below.refl _ _) (Nat.le_refl _) (by simp) ?_;(case hd=>rfl);(case hg=>rfl);(case hr=>first|(go_simp;done)|(go_simp;rfl));(case hp=>exact (cQ.none _ _));intro v16 w5 ho hb hg_ hnew_;clear hg_ hnew_;have HB_:=aA.mk (aE (tb HB) hb);have HO_:=aA.mk (Kd.R_below (ra HO) hb);have HIS_:=aA.mk (Kd.R_below (ra HIS) hb);have HP:=aA.mk (Kd.R_lower ho (aG (tb HB)));clear HB HO HIS;have HB:=HB_;have HO:=HO_;have HIS:=HIS_;clear HB_ HO_ HIS_;clear ho hb));obtain ⟨Ai,ci,ei⟩:=Kd.R_slice HIS.out;subst ei
 go_loopg [3,5,6] k (fun kq v3 v5 v6 wr=>∃ (i:Int) (out:List bL) (pl:List Int),v6 = .int .i64 i∧aA (wM kq l0 is out pl i=some r)∧aA (kq≤k)∧aA (Kd.R fL 99 wr w.heap.size (fun _=>True) v3 out)∧aA (Kd.R (Kd.int .i64) 3 wr w.heap.size (fun _=>True) v5 pl)∧aA (Kd.R Kd.bool 4 wr w.heap.size (fun _=>True) (.slice Ai is.length ci) is)∧aA (Below w.heap.size w wr))
 case atStart=>exact ⟨0,[],[],rfl,HL,⟨Nat.le_refl _⟩,HO,HP,HIS,HB⟩
 case round =>
  clear HL HO HP HIS HB;obtain ⟨i,out,pl,rfl,HA,HK1,HO,HP,HIS,HB⟩:=hrel;obtain ⟨Ao,co,eo⟩:=Kd.R_slice HO.out;subst eo;obtain ⟨Ap,cp,ep⟩:=Kd.R_slice HP.out;subst ep
  cases gk with
  | zero=>exact absurd HA.out (by simp [wM])
  | succ k1 =>
  have H:=HA.out;clear HA;simp only [wM] at H
  by_cases c5:i < (l0.length:Int)
  ·rw [if_pos c5] at H
   by_cases c6:(0≤i∧i < (is.length:Int))∧(pl.length < 17592186044416∧out.length < 2932031007402)
   case neg=>rw [if_neg c6] at H;cases H
   rw [if_pos c6] at H;have LM:=aA.mk c6.2;obtain ⟨⟨c6,c7⟩,_⟩:=c6;have C5:=aA.mk c5;have C6:=aA.mk c6;have C7:=aA.mk c7;obtain ⟨ai,e_,_⟩:=Kd.at_bool (Kd.R_reads' HIS.out).2.2 i c6 c7;cases e_;obtain ⟨ad,e_,_⟩:=dV HR.out i c6 c5;cases e_;have d5:decide (i < (l0.length:Int))=true:=decide_eq_true c5;have d6:decide (0≤i)=true:=decide_eq_true c6;have d7:decide (i < (is.length:Int))=true:=decide_eq_true c7;replace c5:=eq_true c5;replace c6:=eq_true c6;replace c7:=eq_true c7
   go_upto_region 10 with (first|((with_reducible refine cD (b := .append) (xs:=#[.tmp 23,.tmp 26]) rfl ?_);at_builtin;refine Kd.R_append (Kd.int .i64) (w0:=w) w.heap.size rfl (.tmp 23) (.tmp 26) 31 3 (.int .i64 0) 8 rfl Try.underlying31 info3 rfl (by decide) (by omega) (.slice Ap pl.length cp) pl (out.length:Int) [.int .i64 (out.length:Int)] (fun _=>True) (fun _=>False) rfl rfl ?aP (fun _ hk=>hk.elim) ?aF ?aO ?aB ?aS ?aL ?_;(case aP=>exact rfl);(case aB=>exact (tb HB));(case aF=>exact (fun _ _=>trivial));(case aO=>exact (ra HP));(case aS=>exact (aG (tb HB)));(case aL=>have:=LM.out.1;omega);intro v27 wA ho hb hg hat;have HB_:=aA.mk hb;have HO_:=aA.mk (Kd.R_mono (Kd.R_grown (Kd.R_apart' (v := .slice Ap pl.length cp) (ra HO) (Kd.R_typed (ra HP)) (by decide)) hg (fun _ hk=>hk.2)) (fun _ _=>trivial));have HIS_:=aA.mk (Kd.R_mono (Kd.R_grown (Kd.R_apart' (v := .slice Ap pl.length cp) (ra HIS) (Kd.R_typed (ra HP)) (by decide)) hg (fun _ hk=>hk.2)) (fun _ _=>trivial));have HP_:=aA.mk ho;clear HB HO HIS HP ho hb hg hat;have HB:=HB_;have HO:=HO_;have HIS:=HIS_;have HP:=HP_;clear HB_ HO_ HIS_ HP_))
   obtain ⟨ai2,e_,him⟩:=Kd.at_bool (Kd.R_reads' HIS.out).2.2 i C6.out C7.out;obtain rfl:ai=ai2:=(by injection e_);clear e_
   cases b4:cL false is i with
   | false =>
    rw [if_neg (by rw [b4];decide)] at H;rw [b4] at him;have H':=aA.mk H;clear H b4;go_wp2;go_roundg k1
    case measure=>have:=HK1.out;omega
    case rel=>exact ⟨wrap64 (i + 1),_,_,rfl,H',⟨by have:=HK1.out;omega⟩,HO,HP,HIS,HB⟩
   | true =>
    rw [if_pos b4] at H;rw [b4] at him;clear b4;obtain ⟨ps,hps,H⟩:=Option.bind_eq_some_iff.1 H;have HPA:=aA.mk hps;generalize hpl:pl ++ [(out.length:Int)]=pl' at H HP
    by_cases c9:prI pl' (aC l0 i) ps.length
    case neg=>rw [if_neg c9] at H;cases H
    rw [if_pos c9] at H;have H':=aA.mk H;have CI0:=aA.mk c9.1;have CI1:=aA.mk c9.2.1;have CI2:=aA.mk c9.2.2
    have hl':0 < pl'.length:=by rw [← hpl];simp
    clear H c9 hps hpl;obtain ⟨gp,cp',ep,_,_,_⟩:=Kd.R_form HP.out hl';subst ep;clear hl';obtain ⟨ad2,e_,hx0,hx1,hx2,hx3,hx4,hx5⟩:=dV (Kd.C_below HR.out HB.out) i C6.out C5.out;obtain rfl:ad=ad2:=(by injection e_);clear e_
    go_upto_region 12 with (first|((with_reducible refine bF (N:=7) rfl ?_);refine bx (N:=7) (cs:=#[.int .i64 0,.int .i64 0,.int .i64 0,.int .i64 0,.int .i64 0,.int .i64 0]) (t:=99) ?_;intro gn hg w1 hbox hb;have BN0:=aA.mk hbox;have HX0:=aA.mk hb;have GN:=aA.mk (Nat.le_of_eq hg.symm);clear hg hbox hb;obtain ⟨hz0,hz1,hz2,hz3,hz4,hz5⟩:=pP BN0;have hzf:=zP BN0))
    obtain ⟨w5,e5,BN5,HB5,_⟩:=ns6 BN0 HX0 GN (.int .i64 (aC l0 i).f0) (.int .i64 (aC l0 i).f1) (.int .i64 (aC l0 i).f2) (.int .i64 (aC l0 i).f3) (.int .i64 (aC l0 i).f4) (.int .i64 (aC l0 i).f5);rw [e5];clear e5 BN0 HX0 hz0 hz1 hz2 hz3 hz4 hz5 hzf hx0 hx1 hx2 hx3 hx4 hx5 him;obtain ⟨hz0,hz1,hz2,hz3,hz4,hz5⟩:=pP BN5
    go_upto_region 13 with (first|(go_at_call 99;(try simp only [aJ,aN]);(with_reducible refine (cG.calls k1 (aC l0 i).f0 (aC l0 i).f1 (aC l0 i).f2 (aC l0 i).f3 (aC l0 i).f4 (aC l0 i).f5 ps _ HPA.out).mono ?_);rintro e w8 ⟨v8,rfl,ho,hb⟩;obtain ⟨A8,c8_,e8⟩:=Kd.R_slice ho;subst e8;have HBz:=aA.mk (aE HB5.out hb);have BN:=aA.mk (aM BN5.out hb);clear ho hb))
    clear hz0 hz1 hz2 hz3 hz4 hz5 BN5 HB5;obtain ⟨y3,gQ⟩:∃ y:Int,y=(if 0 < ps.length then rd pl' (aC l0 i).f3 else (aC l0 i).f3):=⟨_,rfl⟩;have NY0:=aA.mk gQ;clear gQ
    go_upto_if 41 with (fail)
    generalize hb_:decide (0 < ps.length)=b_
    go_cut [46] (fun _ wx=>aA (wx.heap[gn]? = some (.cells #[.int .i64 (aC l0 i).f0,.int .i64 (aC l0 i).f1,.int .i64 (aC l0 i).f2,.int .i64 y3,.int .i64 (aC l0 i).f4,.int .i64 (aC l0 i).f5] 99 (0,0)))∧aA (Below wA.heap.size wA wx))
    case first=>as_aux_lemma =>
     obtain ⟨hz0,hz1,hz2,hz3,hz4,hz5⟩:=pP BN;have hzf:=zP BN
     cases b_ with
     | true =>
      have n0:0 < ps.length:=by have:=of_decide_eq_true hb_;omega
      clear hb_;have N0:=aA.mk n0;obtain ⟨c8,c9⟩:=CI0.out n0;obtain ⟨hy,hyf⟩:=Kd.R_celln (0:Int) HP.out _ c8 c9
      change wA.cell? _=some (.int .i64 (rd pl' (aC l0 i).f3)) at hy
      replace hy:=lV HBz hy;have d8:decide (0≤(aC l0 i).f3)=true:=decide_eq_true c8;have d9:decide ((aC l0 i).f3 < (pl'.length:Int))=true:=decide_eq_true c9;replace c8:=eq_true c8;replace c9:=eq_true c9;clear n0;go_wp2;go_meet;exact ⟨⟨by rw [NY0.out,if_pos N0.out];exact bU (cs:=#[.int .i64 (aC l0 i).f0,.int .i64 (aC l0 i).f1,.int .i64 (aC l0 i).f2,.int .i64 (aC l0 i).f3,.int .i64 (aC l0 i).f4,.int .i64 (aC l0 i).f5]) BN.out 3 _ rfl⟩,⟨cM HBz.out GN.out⟩⟩
     | false =>
      have n0:¬ 0 < ps.length:=by have:=of_decide_eq_false hb_;omega
      clear hb_;have N0:=aA.mk n0;clear n0;go_wp2;go_meet;exact ⟨⟨by rw [NY0.out,if_neg N0.out];exact BN.out⟩,HBz⟩
    case rest =>
    clear BN HBz hb_;obtain ⟨BN,HBz⟩:=hcut;obtain ⟨y4,gQ⟩:∃ y:Int,y=(if 1 < ps.length then rd pl' (aC l0 i).f4 else (aC l0 i).f4):=⟨_,rfl⟩;have NY1:=aA.mk gQ;clear gQ
    go_upto_if 50 with (fail)
    generalize hb_:decide ((1:Int) < (ps.length:Int))=b_
    go_cut [55] (fun _ wx=>aA (wx.heap[gn]? = some (.cells #[.int .i64 (aC l0 i).f0,.int .i64 (aC l0 i).f1,.int .i64 (aC l0 i).f2,.int .i64 y3,.int .i64 y4,.int .i64 (aC l0 i).f5] 99 (0,0)))∧aA (Below wA.heap.size wA wx))
    case first=>as_aux_lemma =>
     obtain ⟨hz0,hz1,hz2,hz3,hz4,hz5⟩:=pP BN;have hzf:=zP BN
     cases b_ with
     | true =>
      have n0:1 < ps.length:=by have:=of_decide_eq_true hb_;omega
      clear hb_;have N0:=aA.mk n0;obtain ⟨c8,c9⟩:=CI1.out n0;obtain ⟨hy,hyf⟩:=Kd.R_celln (0:Int) HP.out _ c8 c9
      change wA.cell? _=some (.int .i64 (rd pl' (aC l0 i).f4)) at hy
      replace hy:=lV HBz hy;have d8:decide (0≤(aC l0 i).f4)=true:=decide_eq_true c8;have d9:decide ((aC l0 i).f4 < (pl'.length:Int))=true:=decide_eq_true c9;replace c8:=eq_true c8;replace c9:=eq_true c9;clear n0;go_wp2;go_meet;exact ⟨⟨by rw [NY1.out,if_pos N0.out];exact bU (cs:=#[.int .i64 (aC l0 i).f0,.int .i64 (aC l0 i).f1,.int .i64 (aC l0 i).f2,.int .i64 y3,.int .i64 (aC l0 i).f4,.int .i64 (aC l0 i).f5]) BN.out 4 _ rfl⟩,⟨cM HBz.out GN.out⟩⟩
     | false =>
      have n0:¬ 1 < ps.length:=by have:=of_decide_eq_false hb_;omega
      clear hb_;have N0:=aA.mk n0;clear n0;go_wp2;go_meet;exact ⟨⟨by rw [NY1.out,if_neg N0.out];exact BN.out⟩,HBz⟩
    case rest =>
    clear BN HBz hb_;obtain ⟨BN,HBz⟩:=hcut;obtain ⟨y5,gQ⟩:∃ y:Int,y=(if 2 < ps.length then rd pl' (aC l0 i).f5 else (aC l0 i).f5):=⟨_,rfl⟩;have NY2:=aA.mk gQ;clear gQ
    go_upto_if 59 with (fail)
    generalize hb_:decide ((2:Int) < (ps.length:Int))=b_
    go_cut [64] (fun _ wx=>aA (wx.heap[gn]? = some (.cells #[.int .i64 (aC l0 i).f0,.int .i64 (aC l0 i).f1,.int .i64 (aC l0 i).f2,.int .i64 y3,.int .i64 y4,.int .i64 y5] 99 (0,0)))∧aA (Below wA.heap.size wA wx))
    case first=>as_aux_lemma =>
     obtain ⟨hz0,hz1,hz2,hz3,hz4,hz5⟩:=pP BN;have hzf:=zP BN
     cases b_ with
     | true =>
      have n0:2 < ps.length:=by have:=of_decide_eq_true hb_;omega
      clear hb_;have N0:=aA.mk n0;obtain ⟨c8,c9⟩:=CI2.out n0;obtain ⟨hy,hyf⟩:=Kd.R_celln (0:Int) HP.out _ c8 c9
      change wA.cell? _=some (.int .i64 (rd pl' (aC l0 i).f5)) at hy
      replace hy:=lV HBz hy;have d8:decide (0≤(aC l0 i).f5)=true:=decide_eq_true c8;have d9:decide ((aC l0 i).f5 < (pl'.length:Int))=true:=decide_eq_true c9;replace c8:=eq_true c8;replace c9:=eq_true c9;clear n0;go_wp2;go_meet;exact ⟨⟨by rw [NY2.out,if_pos N0.out];exact bU (cs:=#[.int .i64 (aC l0 i).f0,.int .i64 (aC l0 i).f1,.int .i64 (aC l0 i).f2,.int .i64 y3,.int .i64 y4,.int .i64 (aC l0 i).f5]) BN.out 5 _ rfl⟩,⟨cM HBz.out GN.out⟩⟩
     | false =>
      have n0:¬ 2 < ps.length:=by have:=of_decide_eq_false hb_;omega
      clear hb_;have N0:=aA.mk n0;clear n0;go_wp2;go_meet;exact ⟨⟨by rw [NY2.out,if_neg N0.out];exact BN.out⟩,HBz⟩
    case rest =>
    clear BN HBz hb_;obtain ⟨BN,HBz⟩:=hcut;have HB9:=aA.mk (aE HB.out HBz.out);have HO9:=aA.mk (Kd.R_mono (Kd.R_apart' (v := .slice (some ⟨gp,0,none⟩) pl'.length cp') (Kd.R_below HO.out HBz.out) (Kd.R_typed (Kd.R_below HP.out HBz.out)) (by decide)) (fun _ h=>h.2));have HP9:=aA.mk (Kd.R_below HP.out HBz.out);have HI9:=aA.mk (Kd.R_below HIS.out HBz.out);clear HO HP HIS HB HBz;obtain ⟨hz0,hz1,hz2,hz3,hz4,hz5⟩:=pP BN;go_wp2_with (first|((with_reducible refine cD (b := .append) (xs:=#[.tmp 66,.tmp 68]) rfl ?_);at_builtin;refine Kd.R_append fL (w0:=w) w.heap.size rfl (.tmp 66) (.tmp 68) 54 99 (.agg #[(.int .i64 0),(.int .i64 0),(.int .i64 0),(.int .i64 0),(.int .i64 0),(.int .i64 0)]) 48 rfl Try.underlying54 jK rfl (by decide) (by omega) (.slice Ao out.length co) out (⟨(aC l0 i).f0,(aC l0 i).f1,(aC l0 i).f2,y3,y4,y5⟩:bL) [.int .i64 (aC l0 i).f0,.int .i64 (aC l0 i).f1,.int .i64 (aC l0 i).f2,.int .i64 y3,.int .i64 y4,.int .i64 y5] (fun k=>some k≠(.slice (some ⟨gp,0,none⟩) pl'.length cp':Value).ownBlock) (fun _=>False) rfl rfl ?aP (fun _ hk=>hk.elim) ?aF ?aO ?aB ?aS ?aL ?_;(case aP=>exact gS _ _ _ (⟨(aC l0 i).f0,(aC l0 i).f1,(aC l0 i).f2,y3,y4,y5⟩:bL));(case aB=>exact (by repeat (first|(with_reducible first|exact HB9.out|apply bQ|apply bD|apply bO)|exact HB9.out)));(case aF=>exact (fun k hk=>Kd.fresh' (Kd.R_lt (ra HP9)) k hk));(case aO=>exact (ra HO9));(case aS=>exact (aG (by repeat (first|(with_reducible first|exact HB9.out|apply bQ|apply bD|apply bO)|exact HB9.out))));(case aL=>have:=LM.out.2;omega);intro v69 w9 ho hb hg hat;have HB_:=aA.mk hb;have HO_:=aA.mk (Kd.R_mono ho (fun _ _=>trivial));have HIS_:=aA.mk (Kd.R_mono (Kd.R_grown (Kd.R_apart' (v := .slice Ao out.length co) (ra HI9) (Kd.R_typed (ra HO9)) (by decide)) hg (fun _ hk=>hk.2)) (fun _ _=>trivial));have HP_:=aA.mk (Kd.R_mono (Kd.R_grown (Kd.R_apart' (v := .slice Ao out.length co) (ra HP9) (Kd.R_typed (ra HO9)) (by decide)) hg (fun _ hk=>hk.2)) (fun _ _=>trivial));clear ho hb hg hat));go_roundg k1
    case measure=>have:=HK1.out;omega
    case rel=>exact ⟨wrap64 (i + 1),_,_,rfl,H',⟨by have:=HK1.out;omega⟩,⟨by have h:=HO_.out;rw [NY0.out,NY1.out,NY2.out] at h;exact h⟩,HP_,HIS_,HB_⟩
  ·rw [if_neg c5] at H;have d5:decide (i < (l0.length:Int))=false:=decide_eq_false c5;obtain rfl:=os H;clear H c5;go_wp2;go_ret;exact ⟨_,rfl,(ra HO),(tb HB)⟩
end Go.Proofs.Ythipjoioicmcnaa.G
