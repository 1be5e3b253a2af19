-- texts of this session, merged by a program of it (wip/gen/pack.py)
import Derived.Test.YthipjoioicmcnaaKFnDecide1
import Derived.Test.YthipjoioicmcnaaKFnDecide6
import Derived.Test.YthipjoioicmcnaaKFnDecide19
import Derived.Test.YthipjoioicmcnaaKFnDecide3
import Derived.Test.YthipjoioicmcnaaKFnDecide15
import Derived.Test.YthipjoioicmcnaaKFnDecide7
set_option linter.unusedVariables false
set_option linter.unusedSimpArgs false
set_option maxHeartbeats 80000000
set_option maxRecDepth 100000
namespace Go.Proofs.Ythipjoioicmcnaa.G
open Go.RowKit Go.Proofs.YthipjoioicmcnaaW.PrintWords Go.Proofs.YthipjoioicmcnaaW.PrintLast Go.Proofs.YthipjoioicmcnaaW.PrintMore Go.Proofs.Ythipjoioicmcnaa.Sh
attribute [local go_sem] dP dR eA eB dB dC dQ dS
def yV:Nat→List bL→List Bool→Int→List Int→Option (Option (List Int))
 | 0,_,_,_,_=>none
 | k + 1,l,is,i,ws=>if i < (l.length:Int) then (if 0≤i∧i < (is.length:Int) then (if cL false is i=true∧quB (aC l i).f0=true then (if 0≤(aC l i).f2∧(aC l i).f2 < (ws.length:Int) then (if rd ws (aC l i).f2=0 then yV k l is (wrap64 (i + 1)) (ws.set (aC l i).f2.toNat (aC l i).f4) else some none) else none) else yV k l is (wrap64 (i + 1)) ws) else none) else some (some ws)
def snP:Nat→List Int→Int→List Int→Option (List Int)
 | 0,_,_,_=>none
 | k + 1,ps,j,us=>if j < (ps.length:Int) then (if 0≤j∧(0≤rd ps j∧rd ps j < (us.length:Int)) then snP k ps (wrap64 (j + 1)) (us.set (rd ps j).toNat (wrap64 (rd us (rd ps j) + 1))) else none) else some us
def sS:Nat→List bL→List Bool→List Bool→List Int→Int→List Int→Option (Option (List Int))
 | 0,_,_,_,_,_,_=>none
 | k + 1,l,is,hs,ws,i,us=>if i < (l.length:Int) then (if 0≤i∧(i < (is.length:Int)∧i < (hs.length:Int)) then (if cL false is i=true then (if (aC l i).f0=1→0≤(aC l i).f2∧(aC l i).f2 < (ws.length:Int) then (if ((aC l i).f0=1∧rd ws (aC l i).f2≠(aC l i).f1)∨(cL false hs i=true∧wH (aC l i).f0=false) then some none else (cG.f k (aC l i).f0 (aC l i).f1 (aC l i).f2 (aC l i).f3 (aC l i).f4 (aC l i).f5).bind fun ps=>(snP k ps 0 us).bind fun us'=>sS k l is hs ws (wrap64 (i + 1)) us') else none) else sS k l is hs ws (wrap64 (i + 1)) us) else none) else some (some us)
def uF:Nat→List bL→List Bool→List Bool→List Int→Int→Option Bool
 | 0,_,_,_,_,_=>none
 | k + 1,l,is,hs,us,i=>if i < (l.length:Int) then (if 0≤i∧(i < (is.length:Int)∧(i < (hs.length:Int)∧i < (us.length:Int))) then (if cL false is i=true∧(cL false hs i=true∧1 < rd us i) then some false else uF k l is hs us (wrap64 (i + 1))) else none) else some true
def zS (k:Nat) (l:List bL) (is hs:List Bool):Option Bool:=(yV k l is 0 (List.replicate 8 0)).bind fun o=>match o with
 | none=>some false
 | some ws=>if l.length < 17592186044416 then (sS k l is hs ws 0 (List.replicate l.length 0)).bind fun o=>match o with
  | none=>some false
  | some us=>uF k l is hs us 0
 else none
def cI.f (k:Nat) (l:List bL):Option Bool:=(cE.f k l).bind fun t=>if t=true then (if 0≤wrap64 ((l.length:Int) - 1)∧wrap64 ((l.length:Int) - 1) < (l.length:Int) then (if (aC l (wrap64 ((l.length:Int) - 1))).f1=1 then (cT.f k l).bind fun fr=>if 0 < fr.length then some false else (bH.f k l).bind fun is=>(bM.f k l).bind fun hs=>zS k l is hs else some false) else none) else some false
theorem cI.calls (k:Nat) (A0:Option Addr) (c0:Nat) (l0:List (bL)) (r:Bool) (w:World) (hr0:Kd.C fL w A0 l0.length l0) (hc0:l0.length≤c0) (h:cI.f k l0=some r) :
  Calls Try.prog 96 #[.slice A0 l0.length c0] w fun e w'=>e = .returned (.bool r)∧Below w.heap.size w w':=by
 have HR:=aA.mk hr0;have HC:=aA.mk hc0;have HB:=aA.mk (Below.refl w.heap.size w);clear hr0 hc0;unfold cI.f at h;obtain ⟨t,ht,h⟩:=Option.bind_eq_some_iff.1 h;have HT:=aA.mk ht;clear ht
 cases t with
 | false =>
  rw [if_neg (by decide)] at h;obtain rfl:=Option.some.inj h;clear h
  go_enter Try.func96,Try.ntmps96
  go_wp2_with (first|(go_at_call 104;(try simp only [aJ,aN]);(with_reducible refine (cE.calls k _ c0 l0 _ _ (Kd.C_below HR.out (tb HB)) HC.out HT.out).mono ?_);rintro e w2 ⟨rfl,hb⟩;have HB_:=aA.mk (aE (tb HB) hb);skip;clear HB;have HB:=HB_;clear HB_ hb))
  (go_ret;exact ⟨by first|rfl|(simp;done),(tb HB)⟩)
 | true =>
 rw [if_pos rfl] at h
 by_cases c3:0≤wrap64 ((l0.length:Int) - 1)∧wrap64 ((l0.length:Int) - 1) < (l0.length:Int)
 case neg=>rw [if_neg c3] at h;cases h
 rw [if_pos c3] at h;obtain ⟨c3,c4⟩:=c3;obtain ⟨ad,e_,_,hq,_⟩:=dV HR.out _ c3 c4;cases e_;have HQ:=aA.mk hq;clear hq;have d3:decide (0≤wrap64 ((l0.length:Int) - 1))=true:=decide_eq_true c3;have d4:decide (wrap64 ((l0.length:Int) - 1) < (l0.length:Int))=true:=decide_eq_true c4;replace c3:=eq_true c3;replace c4:=eq_true c4
 by_cases b0:(aC l0 (wrap64 ((l0.length:Int) - 1))).f1=1
 case neg =>
  rw [if_neg b0] at h;obtain rfl:=Option.some.inj h;replace b0:=bne_iff_ne.2 b0;clear h
  go_enter Try.func96,Try.ntmps96
  go_wp2_with (first|(go_at_call 104;(try simp only [aJ,aN]);(with_reducible refine (cE.calls k _ c0 l0 _ _ (Kd.C_below HR.out (tb HB)) HC.out HT.out).mono ?_);rintro e w2 ⟨rfl,hb⟩;have HB_:=aA.mk (aE (tb HB) hb);have hq_:=lV HB_ HQ.out;clear HB;have HB:=HB_;clear HB_ hb))
  (go_ret;exact ⟨by first|rfl|(simp;done),(tb HB)⟩)
 rw [if_pos b0] at h;replace b0:=bne_eq_false_iff_eq.2 b0;obtain ⟨fr,hf,h⟩:=Option.bind_eq_some_iff.1 h;have HF:=aA.mk hf;clear hf
 by_cases b1:0 < fr.length
 ·rw [if_pos b1] at h;obtain rfl:=Option.some.inj h;have b2:=decide_eq_true b1;clear h
  go_enter Try.func96,Try.ntmps96
  go_wp2_with (first|(go_at_call 104;(try simp only [aJ,aN]);(with_reducible refine (cE.calls k _ c0 l0 _ _ (Kd.C_below HR.out (tb HB)) HC.out HT.out).mono ?_);rintro e w2 ⟨rfl,hb⟩;have HB_:=aA.mk (aE (tb HB) hb);have hq_:=lV HB_ HQ.out;clear HB;have HB:=HB_;clear HB_ hb)|(go_at_call 128;(try simp only [aJ,aN]);(with_reducible refine (cT.calls k _ c0 l0 _ _ (Kd.C_below HR.out (tb HB)) HC.out HF.out).mono ?_);rintro e w3 ⟨v29,rfl,ho,hb⟩;have HB_:=aA.mk (aE (tb HB) hb);obtain ⟨Af,cf,ef⟩:=Kd.R_slice ho;subst ef;clear ho;clear HB;have HB:=HB_;clear HB_ hb))
  (go_ret;exact ⟨by first|rfl|(simp;done),(tb HB)⟩)
 rw [if_neg b1] at h;have b2:=decide_eq_false b1;have b3:=decide_eq_false (show ¬ (0:Int) < (fr.length:Int) by omega);clear b1;obtain ⟨is,hi,h⟩:=Option.bind_eq_some_iff.1 h;obtain ⟨hs,hh,h⟩:=Option.bind_eq_some_iff.1 h;have HI:=aA.mk hi;have HH:=aA.mk hh;unfold zS at h;obtain ⟨ows,hw,h⟩:=Option.bind_eq_some_iff.1 h;have HW:=aA.mk hw;have H0:=aA.mk h;clear hi hh hw h
 go_enter Try.func96,Try.ntmps96
 go_upto_block 0 with (first|(go_at_call 104;(try simp only [aJ,aN]);(with_reducible refine (cE.calls k _ c0 l0 _ _ (Kd.C_below HR.out (tb HB)) HC.out HT.out).mono ?_);rintro e w2 ⟨rfl,hb⟩;have HB_:=aA.mk (aE (tb HB) hb);have hq_:=lV HB_ HQ.out;clear HB;have HB:=HB_;clear HB_ hb)|(go_at_call 128;(try simp only [aJ,aN]);(with_reducible refine (cT.calls k _ c0 l0 _ _ (Kd.C_below HR.out (tb HB)) HC.out HF.out).mono ?_);rintro e w3 ⟨v29,rfl,ho,hb⟩;have HB_:=aA.mk (aE (tb HB) hb);obtain ⟨Af,cf,ef⟩:=Kd.R_slice ho;subst ef;clear ho;clear HB;have HB:=HB_;clear HB_ hb)|(go_at_call 102;(try simp only [aJ,aN]);(with_reducible refine (bH.calls k _ c0 l0 _ _ (Kd.C_below HR.out (tb HB)) HC.out HI.out).mono ?_);rintro e w4 ⟨v34,rfl,ho,hb⟩;have HB_:=aA.mk (aE (tb HB) hb);have HIS:=aA.mk (Kd.R_lower ho (aG (tb HB)));clear ho;clear HB;have HB:=HB_;clear HB_ hb)|(go_at_call 98;(try simp only [aJ,aN]);(with_reducible refine (bM.calls k _ c0 l0 _ _ (Kd.C_below HR.out (tb HB)) HC.out HH.out).mono ?_);rintro e wa ⟨v36,rfl,ho,hb⟩;have HB_:=aA.mk (aE (tb HB) hb);have HHS:=aA.mk (Kd.R_lower ho (aG (tb HB)));have HIS_:=aA.mk (Kd.R_below HIS.out hb);clear HIS ho;have HIS:=HIS_;clear HIS_;clear HB;have HB:=HB_;clear HB_ hb)|((with_reducible refine bF (N:=37) rfl ?_);refine Kd.R_lit (Kd.int .i64) _ 3 ?hg (N:=37) ?hd (xs:=([]:List Int)) (inner:=[]) (ok:=fun _=>True) (okp:=fun _=>True) ?hr ?hp (fun _ hk=>hk) trivial (Below.refl _ _) (Nat.le_refl _) (by simp) ?_;(case hd=>rfl);(case hg=>rfl);(case hr=>first|(go_simp;done)|(go_simp;rfl));(case hp=>exact (cQ.none _ _));intro v102 w1 ho hb hg_ hnew_;clear hg_ hnew_;have A1:=aA.mk ho;have HB1:=aA.mk hb;clear ho hb))
 obtain ⟨Ai,ci,ei⟩:=Kd.R_slice HIS.out;subst ei;obtain ⟨Ah,ch,eh⟩:=Kd.R_slice HHS.out;subst eh
 go_cut [5] (fun v wx=>aA (Below wa.heap.size wa wx)∧aA (Kd.R (Kd.int .i64) 3 wx wa.heap.size (fun _=>True) v (List.replicate 8 0)))
 case first=>as_aux_lemma =>
  go_wp2_with fail
  go_loopg [5,6] (8 + 1) (fun kq v5 v6 wr=>∃ (i:Int),v6 = .int .i64 i∧aA (0≤i∧i≤8∧(8 - i).toNat < kq)∧aA (Kd.R (Kd.int .i64) 3 wr wa.heap.size (fun _=>True) v5 (List.replicate i.toNat 0))∧aA (Below wa.heap.size wa wr))
  case atStart=>exact ⟨0,rfl,⟨by omega⟩,A1,HB1⟩
  case round =>
   clear A1 HB1;obtain ⟨i,rfl,HJ,HO,HBx⟩:=hrel;obtain ⟨Av,cv,ev⟩:=Kd.R_slice HO.out;subst ev
   by_cases c5:i < 8
   ·have d5:decide (i < 8)=true:=decide_eq_true c5;have LM:=aA.mk (show i.toNat < 17592186044416 by have:=HJ.out;skip;omega);have HJ2:=aA.mk (show wrap64 (i + 1)=i + 1 by have:=HJ.out;have:=LM.out;unfold wrap64;omega);have C5:=aA.mk c5;clear c5
    cases gk with
    | zero=>exact absurd HJ.out.2.2 (by omega)
    | succ k1 =>
    go_wp2_with (first|((with_reducible refine cD (b := .append) (xs:=#[.tmp 42,.tmp 43]) rfl ?_);at_builtin;refine Kd.R_append (Kd.int .i64) (w0:=wa) wa.heap.size rfl (.tmp 42) (.tmp 43) 31 3 (.int .i64 0) 8 rfl Try.underlying31 info3 rfl (by decide) (by omega) (.slice Av (List.replicate i.toNat (0:Int)).length cv) (List.replicate i.toNat 0) 0 [.int .i64 0] (fun _=>True) (fun _=>False) rfl rfl ?aP (fun _ hk=>hk.elim) ?aF ?aO ?aB ?aS ?aL ?_;(case aP=>exact rfl);(case aB=>exact (by repeat (first|(with_reducible first|exact HBx.out|apply bQ|apply bD|apply bO)|exact HBx.out)));(case aF=>exact (fun _ _=>trivial));(case aO=>exact (ra HO));(case aS=>exact (aG (by repeat (first|(with_reducible first|exact HBx.out|apply bQ|apply bD|apply bO)|exact HBx.out))));(case aL=>rw [List.length_replicate];have:=LM.out;omega);intro v105 w6 ho hb hg hat;have HB6:=aA.mk hb;have HO6:=aA.mk ho;clear ho hb hg hat));go_roundg k1
    case measure=>omega
    case rel=>exact ⟨wrap64 (i + 1),rfl,⟨by have:=HJ.out;have:=HJ2.out;have:=C5.out;omega⟩,⟨by rw [HJ2.out,show (i + 1).toNat=i.toNat + 1 by have:=HJ.out;omega,List.replicate_succ'];exact HO6.out⟩,HB6⟩
   ·have d5:decide (i < 8)=false:=decide_eq_false c5;have e5:=aA.mk (show i.toNat=8 by have:=HJ.out;omega);clear c5;go_wp2;go_meet;exact ⟨HBx,⟨by rw [← e5.out];exact HO.out⟩⟩

 case rest =>
 clear A1 HB1;obtain ⟨HBx,HO⟩:=hcut;obtain ⟨Aw,cw,ew⟩:=Kd.R_slice HO.out;subst ew;rw [List.length_replicate] at HO;simp only [List.length_replicate]
 go_upto_block 2 with (fail)
 go_cut [7] (fun _ wx=>∃ ws:List Int,aA (ows=some ws)∧aA (Below wa.heap.size wa wx)∧aA (Kd.R (Kd.int .i64) 3 wx wa.heap.size (fun _=>True) (.slice Aw 8 cw) ws))
 case first=>as_aux_lemma =>
  go_wp2_with fail
  go_loopg [7] k (fun kq v7 wr=>∃ (i:Int) (ws:List Int),v7 = .int .i64 i∧aA (yV kq l0 is i ws=some ows)∧aA (kq≤k)∧aA (Kd.R (Kd.int .i64) 3 wr wa.heap.size (fun _=>True) (.slice Aw 8 cw) ws)∧aA (Below wa.heap.size wa wr))
  case atStart=>exact ⟨0,_,rfl,HW,⟨Nat.le_refl _⟩,HO,HBx⟩
  case round =>
   clear HW HO HBx;obtain ⟨i,ws,rfl,HA,HK1,HO,HBx⟩:=hrel
   cases gk with
   | zero=>exact absurd HA.out (by simp [yV])
   | succ k1 =>
   have H:=HA.out;clear HA;simp only [yV] at H
   by_cases c5:i < (l0.length:Int)
   ·rw [if_pos c5] at H
    by_cases c6:0≤i∧i < (is.length:Int)
    case neg=>rw [if_neg c6] at H;cases H
    rw [if_pos c6] at H;obtain ⟨c6,c7⟩:=c6;obtain ⟨ai,e_,him⟩:=Kd.at_bool (Kd.R_reads' HIS.out).2.2 i c6 c7;cases e_;replace him:=lV HBx him;obtain ⟨ad2,e_,hx⟩:=dV (Kd.C_below HR.out HB.out) i c6 c5;obtain rfl:ad=ad2:=(by injection e_);clear e_;obtain ⟨hx0,_,hx2,_,hx4,_⟩:=hx;replace hx0:=lV HBx hx0;replace hx2:=lV HBx hx2;replace hx4:=lV HBx hx4;have d5:decide (i < (l0.length:Int))=true:=decide_eq_true c5;have d6:decide (0≤i)=true:=decide_eq_true c6;have d7:decide (i < (is.length:Int))=true:=decide_eq_true c7;replace c5:=eq_true c5;replace c6:=eq_true c6;replace c7:=eq_true c7
    by_cases c8:cL false is i=true∧quB (aC l0 i).f0=true
    ·rw [if_pos c8] at H;obtain ⟨b4,b5⟩:=c8;rw [b4] at him
     by_cases c9:0≤(aC l0 i).f2∧(aC l0 i).f2 < (ws.length:Int)
     case neg=>rw [if_neg c9] at H;cases H
     rw [if_pos c9] at H;obtain ⟨c9,c10⟩:=c9;have hl8:=(Kd.R_reads' HO.out).1;obtain ⟨gw,cw2,ew,GW,_,_⟩:=Kd.R_form HO.out (by omega)
     obtain ⟨rfl,rfl⟩:Aw=some ⟨gw,0,none⟩∧cw=cw2:=by injection ew;exact ⟨by assumption,by assumption⟩
     rw [← hl8] at c10;clear ew hl8;obtain ⟨hy,hyf⟩:=Kd.R_celln (0:Int) HO.out _ c9 c10
     change wr.cell? _=some (.int .i64 (rd ws (aC l0 i).f2)) at hy
     have d9:decide (0≤(aC l0 i).f2)=true:=decide_eq_true c9;have d10:decide ((aC l0 i).f2 < 8)=true:=decide_eq_true c10;have d11:decide ((aC l0 i).f2 < ((8:Nat):Int))=true:=decide_eq_true c10;have c11:((aC l0 i).f2 < 8)=True:=eq_true c10;replace c9:=eq_true c9;replace c10:=eq_true c10
     by_cases b6:rd ws (aC l0 i).f2=0
     case neg =>
      rw [if_neg b6] at H;replace b6:=bne_iff_ne.2 b6;obtain rfl:=os H;obtain rfl:=Option.some.inj H0.out;clear H b4
      (go_wp2_with (first|(go_at_call 103;(try simp only [aJ,aN]);(with_reducible refine (quC _ _).mono ?_);rintro e w' ⟨rfl,⟨nd,rfl⟩⟩;(try exact dd)));(repeat (go_quiet (first|(go_at_call 103;(try simp only [aJ,aN]);(with_reducible refine (quC _ _).mono ?_);rintro e w' ⟨rfl,⟨nd,rfl⟩⟩;(try exact dd)));try go_wp2_with (first|(go_at_call 103;(try simp only [aJ,aN]);(with_reducible refine (quC _ _).mono ?_);rintro e w' ⟨rfl,⟨nd,rfl⟩⟩;(try exact dd))))))
      go_ret;exact ⟨by first|rfl|(simp;done),eI HB.out HB.out.size (by repeat (first|(with_reducible first|exact HBx.out|apply bQ|apply bD|apply bO)|exact HBx.out))⟩
     rw [if_pos b6] at H;have b7:=bne_eq_false_iff_eq.2 b6;have H':=aA.mk H;have GW_:=aA.mk GW;clear H b6 GW b4
     go_upto_region 15 with (first|(go_at_call 103;(try simp only [aJ,aN]);(with_reducible refine (quC _ _).mono ?_);rintro e w' ⟨rfl,⟨nd,rfl⟩⟩;(try exact dd)))
     refine fM (n:=13) (S:=fun w'=>∀ p,w'.cell? p=wr.cell? p) (ds:=[12]) (tF 0 13) (by kernel_rfl) rfl rfl (fun _=>rfl) (fun hHeld=>?_)
     repeat (first|(refine pV (v:=undef) (a':=?_) rfl rfl (by kernel_rfl) (fun _ _ _ h=>h) (Or.inr ⟨by rfl,rfl⟩) ?_ ?_;rotate_left;(simp only [Act.put,List.replicate,List.cons_append,List.nil_append,List.append_nil,List.setIfInBounds_toArray,List.set_cons_zero,List.set_cons_succ,aJ,aN];rfl))|(refine pV (v:=?_) (a':=?_) rfl rfl (by kernel_rfl) (fun _ _ _ h=>h) (Or.inl ⟨by rfl,?_⟩) ?_ ?_;rotate_left;(intro w';go_simp;with_reducible rfl);rotate_left;(simp only [Act.put,List.replicate,List.cons_append,List.nil_append,List.append_nil,List.setIfInBounds_toArray,List.set_cons_zero,List.set_cons_succ,aJ,aN];rfl))|(refine yX (v:=?_) (a':=?_) rfl rfl (by kernel_rfl) (fun _ _ _ h=>h) (Or.inl ⟨by rfl,?_⟩) hHeld ?_ ?_;rotate_left;(intro w' s0;go_simp;with_reducible rfl);rotate_left;(simp only [Act.put,List.replicate,List.cons_append,List.nil_append,List.append_nil,List.setIfInBounds_toArray,List.set_cons_zero,List.set_cons_succ,aJ,aN];rfl)))
     refine yC (w1:=?_) rfl rfl (by kernel_rfl) (by decide) (by rfl) ?_ (by kernel_rfl) ?_;rotate_left;(go_simp;rfl);go_wp2;go_roundg k1
     case measure=>have:=HK1.out;omega
     case rel=>exact ⟨wrap64 (i + 1),_,rfl,H',⟨by have:=HK1.out;omega⟩,⟨(Kd.R_putg (Kd.R_drew (Kd.R_drewN HO.out _)) (aC l0 i).f2 (aC l0 i).f4).1⟩,⟨cM (bO (bD HBx.out _)) GW_.out⟩⟩
    ·rw [if_neg c8] at H;have H':=aA.mk H;have b4:=yF c8;clear H c8
     rcases b4 with b4 | ⟨b4,b5⟩
     all_goals (rw [b4] at him;clear b4;(go_wp2_with (first|(go_at_call 103;(try simp only [aJ,aN]);(with_reducible refine (quC _ _).mono ?_);rintro e w' ⟨rfl,⟨nd,rfl⟩⟩;(try exact dd)));(repeat (go_quiet (first|(go_at_call 103;(try simp only [aJ,aN]);(with_reducible refine (quC _ _).mono ?_);rintro e w' ⟨rfl,⟨nd,rfl⟩⟩;(try exact dd)));try go_wp2_with (first|(go_at_call 103;(try simp only [aJ,aN]);(with_reducible refine (quC _ _).mono ?_);rintro e w' ⟨rfl,⟨nd,rfl⟩⟩;(try exact dd))))));go_roundg k1;(case measure=>have:=HK1.out;omega);(case rel=>exact ⟨wrap64 (i + 1),_,rfl,H',⟨by have:=HK1.out;omega⟩,⟨(ra HO)⟩,⟨(by repeat (first|(with_reducible first|exact HBx.out|apply bQ|apply bD|apply bO)|exact HBx.out))⟩⟩))
   ·rw [if_neg c5] at H;have d5:decide (i < (l0.length:Int))=false:=decide_eq_false c5;obtain rfl:=os H;clear H c5;go_wp2;go_meet;exact ⟨ws,⟨rfl⟩,HBx,HO⟩
 case rest =>
 clear HO HBx HW;obtain ⟨ws,HE,HBx,HO⟩:=hcut;obtain rfl:=HE.out;have h:=H0.out
 dsimp only at h
 by_cases lm:l0.length < 17592186044416
 case neg=>rw [if_neg lm] at h;cases h
 rw [if_pos lm] at h;have LEN:=aA.mk lm;obtain ⟨ous,hu,h⟩:=Option.bind_eq_some_iff.1 h;have HU:=aA.mk hu;clear H0 HE;have H0:=aA.mk h;clear lm hu h;obtain ⟨wb,hwb⟩:∃ W:World,W=wc:=⟨_,rfl⟩;rw [← hwb] at HBx HO ⊢;clear hwb;have CI:=aA.mk (Kd.C_below (Kd.R_reads' HIS.out).2.2 HBx.out);have CH:=aA.mk (Kd.C_below (Kd.R_reads' HHS.out).2.2 HBx.out);have CN:=aA.mk (Kd.C_below (Kd.C_below HR.out HB.out) HBx.out);have CW:=aA.mk (Kd.R_reads' HO.out).2.2;have L8:=aA.mk (Kd.R_reads' HO.out).1;clear HIS HHS HO
 go_upto_block 4 with (first|((with_reducible refine bF (N:=84) rfl ?_);refine Kd.R_lit (Kd.int .i64) _ 3 ?hg (N:=84) ?hd (xs:=([]:List Int)) (inner:=[]) (ok:=fun _=>True) (okp:=fun _=>True) ?hr ?hp (fun _ hk=>hk) trivial (Below.refl _ _) (Nat.le_refl _) (by simp) ?_;(case hd=>rfl);(case hg=>rfl);(case hr=>first|(go_simp;done)|(go_simp;rfl));(case hp=>exact (cQ.none _ _));intro v102 w1 ho hb hg_ hnew_;clear hg_ hnew_;have A1:=aA.mk ho;have HB1:=aA.mk hb;clear ho hb))
 go_cut [8] (fun v wx=>aA (Below wb.heap.size wb wx)∧aA (Kd.R (Kd.int .i64) 3 wx wb.heap.size (fun _=>True) v (List.replicate l0.length 0)))
 case first=>as_aux_lemma =>
  go_wp2_with fail
  go_loopg [8,9] (l0.length + 1) (fun kq v5 v6 wr=>∃ (i:Int),v6 = .int .i64 i∧aA (0≤i∧i≤(l0.length:Int)∧((l0.length:Int) - i).toNat < kq)∧aA (Kd.R (Kd.int .i64) 3 wr wb.heap.size (fun _=>True) v5 (List.replicate i.toNat 0))∧aA (Below wb.heap.size wb wr))
  case atStart=>exact ⟨0,rfl,⟨by omega⟩,A1,HB1⟩
  case round =>
   clear A1 HB1;obtain ⟨i,rfl,HJ,HO,HBx⟩:=hrel;obtain ⟨Av,cv,ev⟩:=Kd.R_slice HO.out;subst ev
   by_cases c5:i < (l0.length:Int)
   ·have d5:decide (i < (l0.length:Int))=true:=decide_eq_true c5;have LM:=aA.mk (show i.toNat < 17592186044416 by have:=HJ.out;have:=LEN.out;omega);have HJ2:=aA.mk (show wrap64 (i + 1)=i + 1 by have:=HJ.out;have:=LM.out;unfold wrap64;omega);have C5:=aA.mk c5;clear c5
    cases gk with
    | zero=>exact absurd HJ.out.2.2 (by omega)
    | succ k1 =>
    go_wp2_with (first|((with_reducible refine cD (b := .append) (xs:=#[.tmp 91,.tmp 92]) rfl ?_);at_builtin;refine Kd.R_append (Kd.int .i64) (w0:=wb) wb.heap.size rfl (.tmp 91) (.tmp 92) 31 3 (.int .i64 0) 8 rfl Try.underlying31 info3 rfl (by decide) (by omega) (.slice Av (List.replicate i.toNat (0:Int)).length cv) (List.replicate i.toNat 0) 0 [.int .i64 0] (fun _=>True) (fun _=>False) rfl rfl ?aP (fun _ hk=>hk.elim) ?aF ?aO ?aB ?aS ?aL ?_;(case aP=>exact rfl);(case aB=>exact (by repeat (first|(with_reducible first|exact HBx.out|apply bQ|apply bD|apply bO)|exact HBx.out)));(case aF=>exact (fun _ _=>trivial));(case aO=>exact (ra HO));(case aS=>exact (aG (by repeat (first|(with_reducible first|exact HBx.out|apply bQ|apply bD|apply bO)|exact HBx.out))));(case aL=>rw [List.length_replicate];have:=LM.out;omega);intro v105 w6 ho hb hg hat;have HB6:=aA.mk hb;have HO6:=aA.mk ho;clear ho hb hg hat));go_roundg k1
    case measure=>omega
    case rel=>exact ⟨wrap64 (i + 1),rfl,⟨by have:=HJ.out;have:=HJ2.out;have:=C5.out;omega⟩,⟨by rw [HJ2.out,show (i + 1).toNat=i.toNat + 1 by have:=HJ.out;omega,List.replicate_succ'];exact HO6.out⟩,HB6⟩
   ·have d5:decide (i < (l0.length:Int))=false:=decide_eq_false c5;have e5:=aA.mk (show i.toNat=l0.length by have:=HJ.out;omega);clear c5;go_wp2;go_meet;exact ⟨HBx,⟨by rw [← e5.out];exact HO.out⟩⟩

 case rest =>
 clear A1 HB1;obtain ⟨HBy,HO⟩:=hcut;obtain ⟨Au,cu,eu⟩:=Kd.R_slice HO.out;subst eu;have HL0:=aA.mk (show (List.replicate l0.length (0:Int)).length=l0.length from List.length_replicate);generalize List.replicate l0.length (0:Int)=us0 at HU HO HL0 ⊢
 go_upto_block 6 with (fail)
 go_cut [10] (fun _ wx=>∃ us:List Int,aA (ous=some us)∧aA (us.length=us0.length)∧aA (Below wb.heap.size wb wx)∧aA (Kd.R (Kd.int .i64) 3 wx wb.heap.size (fun _=>True) (.slice Au us0.length cu) us))
 case first=>as_aux_lemma =>
  go_wp2_with fail
  go_loopg [10] k (fun kq v10 wr=>∃ (i:Int) (us:List Int),v10 = .int .i64 i∧aA (sS kq l0 is hs ws i us=some ous)∧aA (kq≤k)∧aA (us.length=us0.length)∧aA (Kd.R (Kd.int .i64) 3 wr wb.heap.size (fun _=>True) (.slice Au us0.length cu) us)∧aA (Below wb.heap.size wb wr))
  case atStart=>exact ⟨0,_,rfl,HU,⟨Nat.le_refl _⟩,⟨rfl⟩,HO,HBy⟩
  case round =>
   clear HU HO HBy;obtain ⟨i,us,rfl,HA,HK1,HLU,HO,HBy⟩:=hrel
   cases gk with
   | zero=>exact absurd HA.out (by simp [sS])
   | succ k1 =>
   have H:=HA.out;clear HA;simp only [sS] at H
   by_cases c5:i < (l0.length:Int)
   ·rw [if_pos c5] at H
    by_cases c6:0≤i∧(i < (is.length:Int)∧i < (hs.length:Int))
    case neg=>rw [if_neg c6] at H;cases H
    rw [if_pos c6] at H;obtain ⟨c6,c7,c8⟩:=c6;have C56:=aA.mk (show 0 < l0.length by omega);obtain ⟨ai,e_,him⟩:=Kd.at_bool CI.out i c6 c7;cases e_;obtain ⟨ah,e_,hhm⟩:=Kd.at_bool CH.out i c6 c8;cases e_;obtain ⟨ad2,e_,hx0,hx1,hx2,hx3,hx4,hx5⟩:=dV CN.out i c6 c5;obtain rfl:ad=ad2:=(by injection e_);clear e_;replace him:=lV HBy him;replace hhm:=lV HBy hhm;replace hx0:=lV HBy hx0;replace hx1:=lV HBy hx1;replace hx2:=lV HBy hx2;replace hx3:=lV HBy hx3;replace hx4:=lV HBy hx4;replace hx5:=lV HBy hx5;have d5:decide (i < (l0.length:Int))=true:=decide_eq_true c5;have d6:decide (0≤i)=true:=decide_eq_true c6;have d7:decide (i < (is.length:Int))=true:=decide_eq_true c7;have d8:decide (i < (hs.length:Int))=true:=decide_eq_true c8;replace c5:=eq_true c5;replace c6:=eq_true c6;replace c7:=eq_true c7;replace c8:=eq_true c8
    cases b4:cL false is i with
    | false =>
     rw [if_neg (by rw [b4];decide)] at H;rw [b4] at him;have H':=aA.mk H;clear H b4;go_wp2;go_roundg k1
     case measure=>have:=HK1.out;omega
     case rel=>exact ⟨wrap64 (i + 1),_,rfl,H',⟨by have:=HK1.out;omega⟩,HLU,⟨(ra HO)⟩,⟨(by repeat (first|(with_reducible first|exact HBy.out|apply bQ|apply bD|apply bO)|exact HBy.out))⟩⟩
    | true =>
    rw [if_pos b4] at H;rw [b4] at him;clear b4
    by_cases c9:(aC l0 i).f0=1→0≤(aC l0 i).f2∧(aC l0 i).f2 < (ws.length:Int)
    case neg=>rw [if_neg c9] at H;cases H
    rw [if_pos c9] at H;have C9:=aA.mk c9;clear c9
    have hyw:(aC l0 i).f0=1→∃ aw,Aw=some aw∧wr.cell? (aw.add (aC l0 i).f2.toNat)=some (.int .i64 (rd ws (aC l0 i).f2)):=fun h=>by
     obtain ⟨aw,ee1,ee2⟩:=Kd.at_int CW.out _ (C9.out h).1 (C9.out h).2;exact ⟨aw,ee1,lV HBy ee2⟩
    have HYW:=aA.mk hyw;clear hyw
    by_cases c10:((aC l0 i).f0=1∧rd ws (aC l0 i).f2≠(aC l0 i).f1)∨(cL false hs i=true∧wH (aC l0 i).f0=false)
    ·rw [if_pos c10] at H;obtain rfl:=os H;obtain rfl:=Option.some.inj H0.out;clear H
     by_cases z1:(aC l0 i).f0=1
     ·have ee1:=beq_iff_eq.2 z1;obtain ⟨aw,e_,hy⟩:=HYW.out z1;cases e_;have c11:=(C9.out z1).1;have c12:=(C9.out z1).2;rw [← L8.out] at c12;have d11:decide (0≤(aC l0 i).f2)=true:=decide_eq_true c11;have d12:decide ((aC l0 i).f2 < 8)=true:=decide_eq_true c12;have d13:decide ((aC l0 i).f2 < ((8:Nat):Int))=true:=decide_eq_true c12;have c13:((aC l0 i).f2 < 8)=True:=eq_true c12;replace c11:=eq_true c11;replace c12:=eq_true c12
      by_cases z2:rd ws (aC l0 i).f2=(aC l0 i).f1
      ·have ee2:=bne_eq_false_iff_eq.2 z2;obtain ⟨b5,b6⟩:=c10.resolve_left (fun h=>h.2 z2);rw [b5] at hhm;clear c10 z1 z2 b5
       (go_wp2_with (first|(go_at_call 129;(try simp only [aJ,aN]);(with_reducible refine (tR _ _).mono ?_);rintro e w' ⟨rfl,⟨nd,rfl⟩⟩;(try exact dd)));(repeat (go_quiet (first|(go_at_call 129;(try simp only [aJ,aN]);(with_reducible refine (tR _ _).mono ?_);rintro e w' ⟨rfl,⟨nd,rfl⟩⟩;(try exact dd)));try go_wp2_with (first|(go_at_call 129;(try simp only [aJ,aN]);(with_reducible refine (tR _ _).mono ?_);rintro e w' ⟨rfl,⟨nd,rfl⟩⟩;(try exact dd))))))
       go_ret;exact ⟨by first|rfl|(simp;done),(eI HB.out HB.out.size (eI HBx.out HBx.out.size (by repeat (first|(with_reducible first|exact HBy.out|apply bQ|apply bD|apply bO)|exact HBy.out))))⟩
      ·have ee2:=bne_iff_ne.2 z2;clear c10 z1 z2
       (go_wp2_with (first|(go_at_call 129;(try simp only [aJ,aN]);(with_reducible refine (tR _ _).mono ?_);rintro e w' ⟨rfl,⟨nd,rfl⟩⟩;(try exact dd)));(repeat (go_quiet (first|(go_at_call 129;(try simp only [aJ,aN]);(with_reducible refine (tR _ _).mono ?_);rintro e w' ⟨rfl,⟨nd,rfl⟩⟩;(try exact dd)));try go_wp2_with (first|(go_at_call 129;(try simp only [aJ,aN]);(with_reducible refine (tR _ _).mono ?_);rintro e w' ⟨rfl,⟨nd,rfl⟩⟩;(try exact dd))))))
       go_ret;exact ⟨by first|rfl|(simp;done),(eI HB.out HB.out.size (eI HBx.out HBx.out.size (by repeat (first|(with_reducible first|exact HBy.out|apply bQ|apply bD|apply bO)|exact HBy.out))))⟩
     ·have ee1:=beq_eq_false_iff_ne.2 z1;obtain ⟨b5,b6⟩:=c10.resolve_left (fun h=>z1 h.1);rw [b5] at hhm;clear c10 z1 b5
      (go_wp2_with (first|(go_at_call 129;(try simp only [aJ,aN]);(with_reducible refine (tR _ _).mono ?_);rintro e w' ⟨rfl,⟨nd,rfl⟩⟩;(try exact dd)));(repeat (go_quiet (first|(go_at_call 129;(try simp only [aJ,aN]);(with_reducible refine (tR _ _).mono ?_);rintro e w' ⟨rfl,⟨nd,rfl⟩⟩;(try exact dd)));try go_wp2_with (first|(go_at_call 129;(try simp only [aJ,aN]);(with_reducible refine (tR _ _).mono ?_);rintro e w' ⟨rfl,⟨nd,rfl⟩⟩;(try exact dd))))))
      go_ret;exact ⟨by first|rfl|(simp;done),(eI HB.out HB.out.size (eI HBx.out HBx.out.size (by repeat (first|(with_reducible first|exact HBy.out|apply bQ|apply bD|apply bO)|exact HBy.out))))⟩
    rw [if_neg c10] at H;obtain ⟨ps,hp,H⟩:=Option.bind_eq_some_iff.1 H;obtain ⟨us',hq,H⟩:=Option.bind_eq_some_iff.1 H;have HP:=aA.mk hp;have HQ2:=aA.mk hq;have H':=aA.mk H;clear hp hq H;have b5:=yF (fun h=>c10 (Or.inr ⟨h.1,by have:=h.2;revert this;cases wH (aC l0 i).f0 <;> simp⟩):¬ (cL false hs i=true∧(!wH (aC l0 i).f0)=true))
    have z3:¬ ((aC l0 i).f0=1∧rd ws (aC l0 i).f2≠(aC l0 i).f1):=fun h=>c10 (Or.inl h)
    clear c10
    go_upto_region 25 with (fail)
    go_cut [141] (fun v wx=>v = .bool false∧aA (∃ n:Nat,wx=wr.drewN n))
    case first=>as_aux_lemma =>
     by_cases z1:(aC l0 i).f0=1
     ·have ee1:=beq_iff_eq.2 z1;obtain ⟨aw,e_,hy⟩:=HYW.out z1;cases e_;have c11:=(C9.out z1).1;have c12:=(C9.out z1).2;rw [← L8.out] at c12;have d11:decide (0≤(aC l0 i).f2)=true:=decide_eq_true c11;have d12:decide ((aC l0 i).f2 < 8)=true:=decide_eq_true c12;have d13:decide ((aC l0 i).f2 < ((8:Nat):Int))=true:=decide_eq_true c12;have c13:((aC l0 i).f2 < 8)=True:=eq_true c12;replace c11:=eq_true c11;replace c12:=eq_true c12;have ee2:=bne_eq_false_iff_eq.2 (show rd ws (aC l0 i).f2=(aC l0 i).f1 from Classical.byContradiction fun h=>z3 ⟨z1,h⟩);clear z1 z3
      rcases b5 with b5 | ⟨b5,b6⟩
      all_goals (rw [b5] at hhm;clear b5;(try replace b6:wH (aC l0 i).f0=true:=by simpa using b6);(go_wp2_with (first|(go_at_call 129;(try simp only [aJ,aN]);(with_reducible refine (tR _ _).mono ?_);rintro e w' ⟨rfl,⟨nd,rfl⟩⟩;(try exact dd)));(repeat (go_quiet (first|(go_at_call 129;(try simp only [aJ,aN]);(with_reducible refine (tR _ _).mono ?_);rintro e w' ⟨rfl,⟨nd,rfl⟩⟩;(try exact dd)));try go_wp2_with (first|(go_at_call 129;(try simp only [aJ,aN]);(with_reducible refine (tR _ _).mono ?_);rintro e w' ⟨rfl,⟨nd,rfl⟩⟩;(try exact dd))))));go_meet;exact ⟨rfl,⟨⟨_,rfl⟩⟩⟩)
     ·have ee1:=beq_eq_false_iff_ne.2 z1;clear z1 z3
      rcases b5 with b5 | ⟨b5,b6⟩
      all_goals (rw [b5] at hhm;clear b5;(try replace b6:wH (aC l0 i).f0=true:=by simpa using b6);(go_wp2_with (first|(go_at_call 129;(try simp only [aJ,aN]);(with_reducible refine (tR _ _).mono ?_);rintro e w' ⟨rfl,⟨nd,rfl⟩⟩;(try exact dd)));(repeat (go_quiet (first|(go_at_call 129;(try simp only [aJ,aN]);(with_reducible refine (tR _ _).mono ?_);rintro e w' ⟨rfl,⟨nd,rfl⟩⟩;(try exact dd)));try go_wp2_with (first|(go_at_call 129;(try simp only [aJ,aN]);(with_reducible refine (tR _ _).mono ?_);rintro e w' ⟨rfl,⟨nd,rfl⟩⟩;(try exact dd))))));go_meet;exact ⟨rfl,⟨⟨_,rfl⟩⟩⟩)
    case rest =>
    clear b5 z3;obtain ⟨rfl,HN⟩:=hcut;obtain ⟨nd_,hnd⟩:=HN.out;subst hnd
    have hU0:0 < us.length:=by have:=HLU.out;have:=HL0.out;have:=C56.out;omega
    obtain ⟨gu,cu2,eu,GU,GUL,_⟩:=Kd.R_form HO.out hU0
    obtain ⟨rfl,rfl⟩:Au=some ⟨gu,0,none⟩∧cu=cu2:=by injection eu;exact ⟨by assumption,by assumption⟩
    have GU_:=aA.mk GU;have GUL_:=aA.mk (show gu < (wr.drewN nd_).heap.size from GUL);clear eu GU GUL hU0 HN;go_wp2_with (first|(go_at_call 99;(try simp only [aJ,aN]);(with_reducible refine (cG.calls k1 (aC l0 i).f0 (aC l0 i).f1 (aC l0 i).f2 (aC l0 i).f3 (aC l0 i).f4 (aC l0 i).f5 ps _ HP.out).mono ?_);rintro e w8 ⟨v11,rfl,ho,hb⟩;have HBz:=aA.mk hb;have HPS:=aA.mk ho;clear ho hb));have HO2:=aA.mk (Kd.R_below (Kd.R_drewN HO.out _) HBz.out);have HB2:=aA.mk (eI (bD HBy.out _) (bD HBy.out _).size HBz.out);have HPS2:=aA.mk (Kd.R_lower (Kd.R_mono (Kd.R_bound HPS.out) (ok':=fun k=>k≠gu) (fun k hk=>by have:=hk.2.1;have:=GUL_.out;omega)) (bD HBy.out nd_).size);obtain ⟨Ap,cp,ep⟩:=Kd.R_slice HPS2.out;subst ep;clear HPS HBz HO HBy him hhm hx0 hx1 hx2 hx3 hx4 hx5 d5 d6 d7 d8 c5 c6 c7 c8
    go_loopg [12] k1 (fun kq v12 wr=>∃ (j:Int) (us2:List Int),v12 = .int .i64 j∧aA (snP kq ps j us2=some us')∧aA (kq≤k1)∧aA (us2.length=us0.length)∧aA (Kd.R (Kd.int .i64) 3 wr wb.heap.size (fun _=>True) (.slice (some ⟨gu,0,none⟩) us0.length cu) us2)∧aA (Kd.R (Kd.int .i64) 3 wr wb.heap.size (fun k=>k≠gu) (.slice Ap ps.length cp) ps)∧aA (Below wb.heap.size wb wr))
    case atStart=>exact ⟨0,us,rfl,HQ2,⟨Nat.le_refl _⟩,HLU,HO2,HPS2,HB2⟩
    case round =>
     clear HQ2 HO2 HPS2 HB2 HLU;obtain ⟨j,us2,rfl,HA,HK2,HLU,HO,HPS,HBy⟩:=hrel
     cases gk with
     | zero=>exact absurd HA.out (by simp [snP])
     | succ k2 =>
     have H:=HA.out;clear HA;simp only [snP] at H
     by_cases c5:j < (ps.length:Int)
     ·rw [if_pos c5] at H
      by_cases c6:0≤j∧(0≤rd ps j∧rd ps j < (us2.length:Int))
      case neg=>rw [if_neg c6] at H;cases H
      rw [if_pos c6] at H;have H2:=aA.mk H;clear H;obtain ⟨c6,c7,c8⟩:=c6;rw [HLU.out] at c8;obtain ⟨ap,e_,hxp⟩:=Kd.at_int (Kd.R_reads' HPS.out).2.2 j c6 c5;cases e_;obtain ⟨hy,hyf⟩:=Kd.R_celln (0:Int) HO.out _ c7 c8
      change wr.cell? _=some (.int .i64 (rd us2 (rd ps j))) at hy
      have d5:decide (j < (ps.length:Int))=true:=decide_eq_true c5;have d6:decide (0≤j)=true:=decide_eq_true c6;have d7:decide (0≤rd ps j)=true:=decide_eq_true c7;have d8:decide (rd ps j < (us0.length:Int))=true:=decide_eq_true c8;replace c5:=eq_true c5;replace c6:=eq_true c6;replace c7:=eq_true c7;replace c8:=eq_true c8
      go_upto_region 31 with (fail)
      refine fM (n:=15) (S:=fun w'=>∀ p,w'.cell? p=wr.cell? p) (ds:=[14]) (tF 0 15) (by kernel_rfl) rfl rfl (fun _=>rfl) (fun hHeld=>?_)
      repeat (first|(refine pV (v:=undef) (a':=?_) rfl rfl (by kernel_rfl) (fun _ _ _ h=>h) (Or.inr ⟨by rfl,rfl⟩) ?_ ?_;rotate_left;(simp only [Act.put,List.replicate,List.cons_append,List.nil_append,List.append_nil,List.setIfInBounds_toArray,List.set_cons_zero,List.set_cons_succ,aJ,aN];rfl))|(refine pV (v:=?_) (a':=?_) rfl rfl (by kernel_rfl) (fun _ _ _ h=>h) (Or.inl ⟨by rfl,?_⟩) ?_ ?_;rotate_left;(intro w';go_simp;with_reducible rfl);rotate_left;(simp only [Act.put,List.replicate,List.cons_append,List.nil_append,List.append_nil,List.setIfInBounds_toArray,List.set_cons_zero,List.set_cons_succ,aJ,aN];rfl))|(refine yX (v:=?_) (a':=?_) rfl rfl (by kernel_rfl) (fun _ _ _ h=>h) (Or.inl ⟨by rfl,?_⟩) hHeld ?_ ?_;rotate_left;(intro w' s0;go_simp;with_reducible rfl);rotate_left;(simp only [Act.put,List.replicate,List.cons_append,List.nil_append,List.append_nil,List.setIfInBounds_toArray,List.set_cons_zero,List.set_cons_succ,aJ,aN];rfl)))
      refine yC (w1:=?_) rfl rfl (by kernel_rfl) (by decide) (by rfl) ?_ (by kernel_rfl) ?_;rotate_left;(go_simp;rfl);go_wp2;go_roundg k2
      case measure=>have:=HK2.out;omega
      case rel=>exact ⟨wrap64 (j + 1),_,rfl,H2,⟨by have:=HK2.out;omega⟩,⟨by rw [List.length_set];exact HLU.out⟩,⟨(Kd.R_putg (Kd.R_drew HO.out) (rd ps j) _).1⟩,⟨Kd.R_far (Kd.R_drew HPS.out) (fun _ h=>h) _⟩,⟨Below.setCell (gH HBy.out) GU_.out _⟩⟩
     ·rw [if_neg c5] at H;have d5:decide (j < (ps.length:Int))=false:=decide_eq_false c5;obtain rfl:=os H;clear H c5;go_wp2;go_roundg k1
      case measure=>have:=HK1.out;omega
      case rel=>exact ⟨wrap64 (i + 1),_,rfl,H',⟨by have:=HK1.out;omega⟩,HLU,HO,HBy⟩
   ·rw [if_neg c5] at H;have d5:decide (i < (l0.length:Int))=false:=decide_eq_false c5;obtain rfl:=os H;clear H c5;go_wp2;go_meet;exact ⟨us,⟨rfl⟩,HLU,HBy,HO⟩
 case rest =>
 clear HO HBy HU;obtain ⟨us,HE,HLU,HBy,HO⟩:=hcut;obtain rfl:=HE.out;have HA0:=aA.mk (show uF k l0 is hs us 0=some r from H0.out);obtain ⟨wz,hwz⟩:∃ W:World,W=wc:=⟨_,rfl⟩;rw [← hwz] at HBy HO ⊢;clear hwz HE H0;have CI2:=aA.mk (Kd.C_below CI.out HBy.out);have CH2:=aA.mk (Kd.C_below CH.out HBy.out);have CU:=aA.mk (Kd.R_reads' HO.out).2.2;clear CI CH;go_wp2_with fail
 go_loopg [13] k (fun kq v13 wr=>∃ (i:Int),v13 = .int .i64 i∧aA (uF kq l0 is hs us i=some r)∧aA (kq≤k)∧aA (Below wz.heap.size wz wr))
 case atStart=>exact ⟨0,rfl,HA0,⟨Nat.le_refl _⟩,⟨Below.refl _ _⟩⟩
 case round =>
  clear HA0;obtain ⟨i,rfl,HA,HK1,HBq⟩:=hrel
  cases gk with
  | zero=>exact absurd HA.out (by simp [uF])
  | succ k1 =>
  have H:=HA.out;clear HA;simp only [uF] at H
  by_cases c5:i < (l0.length:Int)
  ·rw [if_pos c5] at H
   by_cases c6:0≤i∧(i < (is.length:Int)∧(i < (hs.length:Int)∧i < (us.length:Int)))
   case neg=>rw [if_neg c6] at H;cases H
   rw [if_pos c6] at H;obtain ⟨c6,c7,c8,c9⟩:=c6;obtain ⟨ai,e_,him⟩:=Kd.at_bool CI2.out i c6 c7;cases e_;obtain ⟨ah,e_,hhm⟩:=Kd.at_bool CH2.out i c6 c8;cases e_;obtain ⟨au,e_,hum⟩:=Kd.at_int CU.out i c6 c9;cases e_;replace him:=lV HBq him;replace hhm:=lV HBq hhm;replace hum:=lV HBq hum;rw [HLU.out] at c9;have d5:decide (i < (l0.length:Int))=true:=decide_eq_true c5;have d6:decide (0≤i)=true:=decide_eq_true c6;have d7:decide (i < (is.length:Int))=true:=decide_eq_true c7;have d8:decide (i < (hs.length:Int))=true:=decide_eq_true c8;have d9:decide (i < (us0.length:Int))=true:=decide_eq_true c9;replace c5:=eq_true c5;replace c6:=eq_true c6;replace c7:=eq_true c7;replace c8:=eq_true c8;replace c9:=eq_true c9
   by_cases c10:cL false is i=true∧(cL false hs i=true∧1 < rd us i)
   ·rw [if_pos c10] at H;obtain ⟨b1,b2,b3⟩:=c10;rw [b1] at him;rw [b2] at hhm;have b4:=decide_eq_true b3;obtain rfl:=os H;clear H b1 b2 b3;go_wp2;go_ret;exact ⟨by first|rfl|(simp;done),(eI HB.out HB.out.size (eI HBx.out HBx.out.size (eI HBy.out HBy.out.size (by repeat (first|(with_reducible first|exact HBq.out|apply bQ|apply bD|apply bO)|exact HBq.out)))))⟩
   ·rw [if_neg c10] at H;have H':=aA.mk H
    have b1:cL false is i=false∨(cL false is i=true∧(cL false hs i=false∨(cL false hs i=true∧decide (1 < rd us i)=false))):=by
     rcases yF (fun h=>c10 ⟨h.1,by have:=h.2;rw [Bool.and_eq_true,decide_eq_true_eq] at this;exact this⟩:¬ (cL false is i=true∧(cL false hs i && decide (1 < rd us i))=true)) with h | ⟨h,h2⟩
     ·exact Or.inl h
     ·refine Or.inr ⟨h,?_⟩
      revert h2
      cases cL false hs i <;> simp
    clear H c10
    rcases b1 with b1 | ⟨b1,b2 | ⟨b2,b3⟩⟩
    all_goals (rw [b1] at him;(try rw [b2] at hhm);clear b1;(try clear b2);go_wp2;go_roundg k1;(case measure=>have:=HK1.out;omega);(case rel=>exact ⟨wrap64 (i + 1),rfl,H',⟨by have:=HK1.out;omega⟩,⟨(by repeat (first|(with_reducible first|exact HBq.out|apply bQ|apply bD|apply bO)|exact HBq.out))⟩⟩))
  ·rw [if_neg c5] at H;have d5:decide (i < (l0.length:Int))=false:=decide_eq_false c5;obtain rfl:=os H;clear H c5;go_wp2;go_ret;exact ⟨by first|rfl|(simp;done),(eI HB.out HB.out.size (eI HBx.out HBx.out.size (eI HBy.out HBy.out.size (by repeat (first|(with_reducible first|exact HBq.out|apply bQ|apply bD|apply bO)|exact HBq.out)))))⟩
end Go.Proofs.Ythipjoioicmcnaa.G
