-- texts of this session, merged by a program of it (wip/gen/pack.py)
import Derived.Test.YthipjoioicmcnaaKFnTable2
import Derived.Test.YthipjoioicmcnaaKFnTable6
import Derived.Test.YthipjoioicmcnaaKFnTable5
import Derived.Test.YthipjoioicmcnaaKFnTable7
import Derived.Test.YthipjoioicmcnaaKFnTable9
set_option linter.unusedVariables false
set_option linter.unusedSimpArgs false
set_option maxHeartbeats 80000000
set_option maxRecDepth 100000
namespace Go.Proofs.Ythipjoioicmcnaa.G
open Go.RowKit Go.Proofs.YthipjoioicmcnaaW.PrintWords Go.Proofs.YthipjoioicmcnaaW.PrintLast Go.Proofs.YthipjoioicmcnaaW.PrintMore Go.Proofs.Ythipjoioicmcnaa.Sh
attribute [local go_sem] eS eR fI fJ eI eJ eU eT
mutual
def bW.j0:Nat→List (eE)→List (bN)→Bool→Option (Bool)
 | 0,_,_,_=>none
 | k + 1,x0,x1,x21=>if x21=true then (some false) else ((cU.f k).bind fun t103=>(bW.l0 k x0 x1 t103 0))
def bW.l0:Nat→List (eE)→List (bN)→List Int→Int→Option (Bool)
 | 0,_,_,_,_=>none
 | k + 1,x0,x1,x5,x6=>if x6 < (x0.length:Int) then (if 0≤x6 then ((bD.f ((aI x0 x6).f1) 0 7).bind fun t107=>(if t107=true then ((bD.f ((aI x0 x6).f2) 1 8).bind fun t109=>(if t109=true then (if 0≤((aI x0 x6).f1) then (if ((aI x0 x6).f1) < (x5.length:Int) then (if (rd x5 ((aI x0 x6).f1))=0 then (bW.l0 k x0 x1 (x5.set (((aI x0 x6).f1):Int).toNat ((aI x0 x6).f2)) (wrap64 (x6 + 1))) else (some false)) else (none)) else (none)) else (some false))) else (some false))) else (none)) else ((bG.f k x1).bind fun t115=>(bW.l1 k x1 x5 t115 0))
def bW.l1:Nat→List (bN)→List Int→List Bool→Int→Option (Bool)
 | 0,_,_,_,_=>none
 | k + 1,x1,x5,x7,x8=>if x8 < (x1.length:Int) then (if 0≤x8 then ((bR.f ((aC x1 x8).f0)).bind fun t119=>(if t119=true then (some false) else (if x8 < (x7.length:Int) then (if cW false x7 x8=true then (if ((aC x1 x8).f0)=1 then (if 0≤((aC x1 x8).f2) then (if ((aC x1 x8).f2) < (x5.length:Int) then (if (rd x5 ((aC x1 x8).f2))=((aC x1 x8).f1) then (bW.l1 k x1 x5 x7 (wrap64 (x8 + 1))) else (some false)) else (none)) else (none)) else (bW.l1 k x1 x5 x7 (wrap64 (x8 + 1)))) else (bW.l1 k x1 x5 x7 (wrap64 (x8 + 1)))) else (none)))) else (none)) else (some true)
end
def bW.f (k:Nat) (l0:List (eE)) (l1:List (bN)):Option (Bool):=(cD.f k l1).bind fun t101=>(if t101=true then (if 0≤(wrap64 ((l1.length:Int) - 1)) then (if (wrap64 ((l1.length:Int) - 1)) < (l1.length:Int) then (bW.j0 k l0 l1 (((aC l1 (wrap64 ((l1.length:Int) - 1))).f1) != 1)) else (none)) else (none)) else (bW.j0 k l0 l1 true))
theorem bW.calls (k:Nat) (A0:Option Addr) (c0:Nat) (l0:List (eE)) (A1:Option Addr) (c1:Nat) (l1:List (bN)) (r:Bool) (w:World) (hr0:Kd.C jU w A0 l0.length l0) (hc0:l0.length≤c0) (hr1:Kd.C eV w A1 l1.length l1) (hc1:l1.length≤c1) (h:bW.f k l0 l1=some r) :
  Calls Try.prog 81 #[.slice A0 l0.length c0,.slice A1 l1.length c1] w fun e w'=>e = .returned (.bool r)∧Below w.heap.size w w':=by
 have HR0:=aA.mk hr0;have HR1:=aA.mk hr1;have HC1:=aA.mk hc1;have HB:=aA.mk (Below.refl w.heap.size w);clear hr0 hc0 hr1 hc1;unfold bW.f at h;obtain ⟨t,ht,h⟩:=Option.bind_eq_some_iff.1 h;have HT:=aA.mk ht;clear ht
 cases t with
 | false =>
  rw [if_neg (by decide)] at h
  cases k with
  | zero=>cases h
  | succ k0 =>
  obtain rfl:=Option.some.inj h;clear h
  go_enter Try.func81,Try.ntmps81
  go_wp2_with (first|(go_at_call 104;(try simp only [aJ,aK]);(with_reducible refine (cD.calls _ _ c1 l1 _ _ (Kd.C_below HR1.out (tb HB)) HC1.out HT.out).mono ?_);rintro e w2 ⟨rfl,hb⟩;have HB2:=aA.mk (aE (tb HB) hb);clear hb;(try replace hq:=kZ HB2 hq)));go_ret;exact ⟨rfl,(by repeat (first|(with_reducible first|exact HB2.out|apply bS|apply aV|apply bQ)|exact HB2.out))⟩
 | true =>
 rw [if_pos rfl] at h
 by_cases c3:0≤wrap64 ((l1.length:Int) - 1)
 case neg=>rw [if_neg c3] at h;cases h
 by_cases c4:wrap64 ((l1.length:Int) - 1) < (l1.length:Int)
 case neg=>rw [if_pos c3,if_neg c4] at h;cases h
 rw [if_pos c3,if_pos c4] at h;obtain ⟨ad,e_,_,hq,_⟩:=dD HR1.out _ c3 c4;cases e_;have d3:decide (0≤wrap64 ((l1.length:Int) - 1))=true:=decide_eq_true c3;have d4:decide (wrap64 ((l1.length:Int) - 1) < (l1.length:Int))=true:=decide_eq_true c4;replace c3:=eq_true c3;replace c4:=eq_true c4
 cases k with
 | zero=>cases h
 | succ k0 =>
 cases b0:((aC l1 (wrap64 ((l1.length:Int) - 1))).f1 != 1) with
 | true =>
  rw [b0] at h;obtain rfl:=Option.some.inj h;clear h
  go_enter Try.func81,Try.ntmps81
  go_wp2_with (first|(go_at_call 104;(try simp only [aJ,aK]);(with_reducible refine (cD.calls _ _ c1 l1 _ _ (Kd.C_below HR1.out (tb HB)) HC1.out HT.out).mono ?_);rintro e w2 ⟨rfl,hb⟩;have HB2:=aA.mk (aE (tb HB) hb);clear hb;(try replace hq:=kZ HB2 hq)));go_ret;exact ⟨rfl,(by repeat (first|(with_reducible first|exact HB2.out|apply bS|apply aV|apply bQ)|exact HB2.out))⟩
 | false =>
 rw [b0] at h;simp only [bW.j0,Bool.false_eq_true,if_false] at h;obtain ⟨uA,hz,h⟩:=Option.bind_eq_some_iff.1 h;have HZ:=aA.mk (show cU.f k0=some uA from hz);have HF:=aA.mk h;clear hz h
 go_enter Try.func81,Try.ntmps81
 go_wp2_with (first|(go_at_call 104;(try simp only [aJ,aK]);(with_reducible refine (cD.calls _ _ c1 l1 _ _ (Kd.C_below HR1.out (tb HB)) HC1.out HT.out).mono ?_);rintro e w2 ⟨rfl,hb⟩;have HB2:=aA.mk (aE (tb HB) hb);clear hb;(try replace hq:=kZ HB2 hq))|(go_at_call 82;(try simp only [aJ,aK]);(with_reducible refine (cU.calls _ _ _ HZ.out).mono ?_);rintro e w3 ⟨v5,rfl,ho,hb⟩;have HB3:=aA.mk (aE (by repeat (first|(with_reducible first|exact HB2.out|apply bS|apply aV|apply bQ)|exact HB2.out)) hb);have HO3:=aA.mk (Kd.R_lower ho (aM (by repeat (first|(with_reducible first|exact HB2.out|apply bS|apply aV|apply bQ)|exact HB2.out))));clear ho hb));clear hq c3 c4 d3 d4 b0;obtain ⟨Aw,cw,ew⟩:=Kd.R_slice HO3.out;subst ew
 go_loopg [6] k0 (fun kq v6 wr=>∃ (i:Int) (ws:List Int),v6 = .int .i64 i∧aA (bW.l0 kq l0 l1 ws i=some r)∧aA (kq≤k0)∧aA (ws.length=uA.length)∧aA (Kd.R (Kd.int .i64) 3 wr w.heap.size (fun _=>True) (.slice Aw uA.length cw) ws)∧aA (Below w.heap.size w wr))
 case atStart=>exact ⟨0,uA,rfl,HF,⟨Nat.le_refl _⟩,⟨rfl⟩,⟨(ra HO3)⟩,⟨(by repeat (first|(with_reducible first|exact HB3.out|apply bS|apply aV|apply bQ)|exact HB3.out))⟩⟩
 case round =>
  clear HF HO3 HB3 HB2 HB;obtain ⟨i,ws,rfl,HA,HK1,HL,HO,HB⟩:=hrel
  cases gk with
  | zero=>exact absurd HA.out (by simp [bW.l0])
  | succ k1 =>
  have H:=HA.out;clear HA;simp only [bW.l0,zU,Option.bind_some] at H
  by_cases c5:i < (l0.length:Int)
  ·rw [if_pos c5] at H
   by_cases c6:0≤i
   case neg=>rw [if_neg c6] at H;cases H
   rw [if_pos c6] at H;obtain ⟨ad2,e_,hx0,hx1,hx2⟩:=gT HR0.out i c6 c5;cases e_;replace hx0:=kZ HB hx0;replace hx1:=kZ HB hx1;replace hx2:=kZ HB hx2;have d5:decide (i < (l0.length:Int))=true:=decide_eq_true c5;have d6:decide (0≤i)=true:=decide_eq_true c6;replace c5:=eq_true c5;replace c6:=eq_true c6
   by_cases b1:oY (aI l0 i).f1 0 7=true
   case neg =>
    rw [if_neg b1] at H;replace b1:=Bool.eq_false_iff.2 b1;obtain rfl:=os H;clear H;go_wp2_with (first|(go_at_call 69;(try simp only [aJ,aK]);(with_reducible refine (qO _ _ _ _).mono ?_);rintro e w' ⟨rfl,⟨nd,rfl⟩⟩;(try exact dd)));(repeat (go_quiet (first|(go_at_call 69;(try simp only [aJ,aK]);(with_reducible refine (qO _ _ _ _).mono ?_);rintro e w' ⟨rfl,⟨nd,rfl⟩⟩;(try exact dd)));try go_wp2_with (first|(go_at_call 69;(try simp only [aJ,aK]);(with_reducible refine (qO _ _ _ _).mono ?_);rintro e w' ⟨rfl,⟨nd,rfl⟩⟩;(try exact dd)))));go_ret;exact ⟨rfl,(tb HB)⟩
   rw [if_pos b1] at H
   by_cases b2:oY (aI l0 i).f2 1 8=true
   case neg =>
    rw [if_neg b2] at H;replace b2:=Bool.eq_false_iff.2 b2;obtain rfl:=os H;clear H;go_wp2_with (first|(go_at_call 69;(try simp only [aJ,aK]);(with_reducible refine (qO _ _ _ _).mono ?_);rintro e w' ⟨rfl,⟨nd,rfl⟩⟩;(try exact dd)));(repeat (go_quiet (first|(go_at_call 69;(try simp only [aJ,aK]);(with_reducible refine (qO _ _ _ _).mono ?_);rintro e w' ⟨rfl,⟨nd,rfl⟩⟩;(try exact dd)));try go_wp2_with (first|(go_at_call 69;(try simp only [aJ,aK]);(with_reducible refine (qO _ _ _ _).mono ?_);rintro e w' ⟨rfl,⟨nd,rfl⟩⟩;(try exact dd)))));go_ret;exact ⟨rfl,(tb HB)⟩
   rw [if_pos b2] at H
   by_cases c7:0≤(aI l0 i).f1
   case neg=>rw [if_neg c7] at H;cases H
   by_cases c8:(aI l0 i).f1 < (ws.length:Int)
   case neg=>rw [if_pos c7,if_neg c8] at H;cases H
   rw [if_pos c7,if_pos c8] at H;obtain ⟨gw,cw2,ew,GW,_,_⟩:=Kd.R_form HO.out (by omega)
   obtain ⟨rfl,rfl⟩:Aw=some ⟨gw,0,none⟩∧cw=cw2:=by injection ew;exact ⟨by assumption,by assumption⟩
   clear ew;rw [HL.out] at c8;obtain ⟨hy,hyf⟩:=Kd.R_celln (0:Int) HO.out _ c7 c8
   change wr.cell? _=some (.int .i64 (rd ws (aI l0 i).f1)) at hy
   have d7:decide (0≤(aI l0 i).f1)=true:=decide_eq_true c7;have d8:decide ((aI l0 i).f1 < (uA.length:Int))=true:=decide_eq_true c8;have d9:decide ((aI l0 i).f1 < (ws.length:Int))=true:=decide_eq_true (by rw [HL.out];exact c8);replace c7:=eq_true c7;replace c8:=eq_true c8
   by_cases b3:rd ws (aI l0 i).f1=0
   case neg =>
    rw [if_neg b3] at H;replace b3:=bne_iff_ne.2 b3;obtain rfl:=os H;clear H;go_wp2_with (first|(go_at_call 69;(try simp only [aJ,aK]);(with_reducible refine (qO _ _ _ _).mono ?_);rintro e w' ⟨rfl,⟨nd,rfl⟩⟩;(try exact dd)));(repeat (go_quiet (first|(go_at_call 69;(try simp only [aJ,aK]);(with_reducible refine (qO _ _ _ _).mono ?_);rintro e w' ⟨rfl,⟨nd,rfl⟩⟩;(try exact dd)));try go_wp2_with (first|(go_at_call 69;(try simp only [aJ,aK]);(with_reducible refine (qO _ _ _ _).mono ?_);rintro e w' ⟨rfl,⟨nd,rfl⟩⟩;(try exact dd)))));go_ret;exact ⟨rfl,(tb HB)⟩
   rw [if_pos b3] at H;have b4:=bne_eq_false_iff_eq.2 b3;have H':=aA.mk H;have HO4:=aA.mk (Kd.R_putg (Kd.R_drewN (Kd.R_drew HO.out) 0) (aI l0 i).f1 (aI l0 i).f2).1;have GW_:=aA.mk GW;clear H b3 GW
   go_upto_region 9 with (first|(go_at_call 69;(try simp only [aJ,aK]);(with_reducible refine (qO _ _ _ _).mono ?_);rintro e w' ⟨rfl,⟨nd,rfl⟩⟩;(try exact dd)))
   refine eW (n:=13) (S:=fun w'=>∀ p,w'.cell? p=wr.cell? p) (ds:=[12]) (tF 0 13) (by kernel_rfl) rfl rfl (fun _=>rfl) (fun hHeld=>?_)
   repeat (first|(refine oR (v:=undef) (a':=?_) rfl rfl (by kernel_rfl) (fun _ _ _ h=>h) (Or.inr ⟨by rfl,rfl⟩) ?_ ?_;rotate_left;(simp only [Act.put,List.replicate,List.cons_append,List.nil_append,List.append_nil,List.setIfInBounds_toArray,List.set_cons_zero,List.set_cons_succ,aJ,aK];rfl))|(refine oR (v:=?_) (a':=?_) rfl rfl (by kernel_rfl) (fun _ _ _ h=>h) (Or.inl ⟨by rfl,?_⟩) ?_ ?_;rotate_left;(intro w';go_simp;with_reducible rfl);rotate_left;(simp only [Act.put,List.replicate,List.cons_append,List.nil_append,List.append_nil,List.setIfInBounds_toArray,List.set_cons_zero,List.set_cons_succ,aJ,aK];rfl))|(refine wV (v:=?_) (a':=?_) rfl rfl (by kernel_rfl) (fun _ _ _ h=>h) (Or.inl ⟨by rfl,?_⟩) hHeld ?_ ?_;rotate_left;(intro w' s0;go_simp;with_reducible rfl);rotate_left;(simp only [Act.put,List.replicate,List.cons_append,List.nil_append,List.append_nil,List.setIfInBounds_toArray,List.set_cons_zero,List.set_cons_succ,aJ,aK];rfl)))
   refine wO (w1:=?_) rfl rfl (by kernel_rfl) (by decide) (by rfl) ?_ (by kernel_rfl) ?_;rotate_left;(go_simp;rfl);go_wp2;go_roundg k1
   case measure=>have:=HK1.out;omega
   case rel=>exact ⟨wrap64 (i + 1),_,rfl,H',⟨by have:=HK1.out;omega⟩,⟨by rw [List.length_set];exact HL.out⟩,⟨(Kd.R_putg (Kd.R_drew (Kd.R_drewN HO.out _)) (aI l0 i).f1 (aI l0 i).f2).1⟩,⟨aZ (bQ (aV HB.out _)) GW_.out⟩⟩
  ·rw [if_neg c5] at H;have d5:decide (i < (l0.length:Int))=false:=decide_eq_false c5;obtain ⟨ms,hm,H⟩:=Option.bind_eq_some_iff.1 H;have HM:=aA.mk hm;have HF:=aA.mk H;clear c5 hm H;go_wp2_with (first|(go_at_call 102;(try simp only [aJ,aK]);(with_reducible refine (bG.calls _ _ c1 l1 _ _ (Kd.C_below HR1.out (tb HB)) HC1.out HM.out).mono ?_);rintro e w5 ⟨v7,rfl,ho,hb⟩;have HBr:=aA.mk (aE (tb HB) hb);have HMr:=aA.mk (Kd.R_lower ho (aM (tb HB)));have HNe:=aA.mk (Kd.R_below (ra HO) hb);clear ho hb));obtain ⟨Am,cm,em⟩:=Kd.R_slice HMr.out;subst em
   go_loopg [8] k1 (fun kq v8 wr=>∃ (i:Int),v8 = .int .i64 i∧aA (bW.l1 kq l1 ws ms i=some r)∧aA (kq≤k1)∧aA (Kd.R (Kd.int .i64) 3 wr w.heap.size (fun _=>True) (.slice Aw uA.length cw) ws)∧aA (Kd.R Kd.bool 4 wr w.heap.size (fun _=>True) (.slice Am ms.length cm) ms)∧aA (Below w.heap.size w wr))
   case atStart=>exact ⟨0,rfl,HF,⟨Nat.le_refl _⟩,HNe,HMr,HBr⟩
   case round =>
    clear HF HNe HMr HBr HB HO d5 HK1;obtain ⟨i,rfl,HA,HK1,HO,HMs,HB⟩:=hrel
    cases gk with
    | zero=>exact absurd HA.out (by simp [bW.l1])
    | succ k2 =>
    have H:=HA.out;clear HA;simp only [bW.l1] at H
    by_cases c5:i < (l1.length:Int)
    ·rw [if_pos c5] at H
     by_cases c6:0≤i
     case neg=>rw [if_neg c6] at H;cases H
     rw [if_pos c6] at H;obtain ⟨ad2,e_,hx0,hx1,hx2,_⟩:=dD HR1.out i c6 c5;obtain rfl:ad=ad2:=(by injection e_);clear e_;replace hx0:=kZ HB hx0;replace hx1:=kZ HB hx1;replace hx2:=kZ HB hx2;have d5:decide (i < (l1.length:Int))=true:=decide_eq_true c5;have d6:decide (0≤i)=true:=decide_eq_true c6;obtain ⟨t,hq,H⟩:=Option.bind_eq_some_iff.1 H;have HQ:=aA.mk hq;clear hq;have C6:=aA.mk c6;replace c5:=eq_true c5;replace c6:=eq_true c6
     cases t with
     | true =>
      rw [if_pos rfl] at H;obtain rfl:=os H;clear H;go_wp2_with (first|(go_at_call 103;(try simp only [aJ,aK]);(with_reducible refine (bR.calls (aC l1 i).f0 _ _ HQ.out).mono ?_);rintro e w' ⟨rfl,⟨nd,rfl⟩⟩;(try exact dd)));(repeat (go_quiet (first|(go_at_call 103;(try simp only [aJ,aK]);(with_reducible refine (bR.calls (aC l1 i).f0 _ _ HQ.out).mono ?_);rintro e w' ⟨rfl,⟨nd,rfl⟩⟩;(try exact dd)));try go_wp2_with (first|(go_at_call 103;(try simp only [aJ,aK]);(with_reducible refine (bR.calls (aC l1 i).f0 _ _ HQ.out).mono ?_);rintro e w' ⟨rfl,⟨nd,rfl⟩⟩;(try exact dd)))));go_ret;exact ⟨rfl,(tb HB)⟩
     | false =>
     rw [if_neg (by decide)] at H
     by_cases c7:i < (ms.length:Int)
     case neg=>rw [if_neg c7] at H;cases H
     rw [if_pos c7] at H;obtain ⟨am,e_,hm⟩:=Kd.at_bool (Kd.R_reads' HMs.out).2.2 i C6.out c7;cases e_;have d7:decide (i < (ms.length:Int))=true:=decide_eq_true c7;replace c7:=eq_true c7
     cases b1:cW false ms i with
     | false =>
      rw [if_neg (by rw [b1];decide)] at H;rw [b1] at hm;have H':=aA.mk H;clear H b1;go_wp2_with (first|(go_at_call 103;(try simp only [aJ,aK]);(with_reducible refine (bR.calls (aC l1 i).f0 _ _ HQ.out).mono ?_);rintro e w' ⟨rfl,⟨nd,rfl⟩⟩;(try exact dd)));(repeat (go_quiet (first|(go_at_call 103;(try simp only [aJ,aK]);(with_reducible refine (bR.calls (aC l1 i).f0 _ _ HQ.out).mono ?_);rintro e w' ⟨rfl,⟨nd,rfl⟩⟩;(try exact dd)));try go_wp2_with (first|(go_at_call 103;(try simp only [aJ,aK]);(with_reducible refine (bR.calls (aC l1 i).f0 _ _ HQ.out).mono ?_);rintro e w' ⟨rfl,⟨nd,rfl⟩⟩;(try exact dd)))));go_roundg k2;(case measure=>have:=HK1.out;omega);(case rel=>exact ⟨wrap64 (i + 1),rfl,H',⟨by have:=HK1.out;omega⟩,⟨(ra HO)⟩,⟨(ra HMs)⟩,⟨(tb HB)⟩⟩)
     | true =>
     rw [if_pos b1] at H;rw [b1] at hm;clear b1
     by_cases c8:(aC l1 i).f0=1
     case neg =>
      rw [if_neg c8] at H;have b2:=beq_eq_false_iff_ne.2 c8;have H':=aA.mk H;clear H c8;go_wp2_with (first|(go_at_call 103;(try simp only [aJ,aK]);(with_reducible refine (bR.calls (aC l1 i).f0 _ _ HQ.out).mono ?_);rintro e w' ⟨rfl,⟨nd,rfl⟩⟩;(try exact dd)));(repeat (go_quiet (first|(go_at_call 103;(try simp only [aJ,aK]);(with_reducible refine (bR.calls (aC l1 i).f0 _ _ HQ.out).mono ?_);rintro e w' ⟨rfl,⟨nd,rfl⟩⟩;(try exact dd)));try go_wp2_with (first|(go_at_call 103;(try simp only [aJ,aK]);(with_reducible refine (bR.calls (aC l1 i).f0 _ _ HQ.out).mono ?_);rintro e w' ⟨rfl,⟨nd,rfl⟩⟩;(try exact dd)))));go_roundg k2;(case measure=>have:=HK1.out;omega);(case rel=>exact ⟨wrap64 (i + 1),rfl,H',⟨by have:=HK1.out;omega⟩,⟨(ra HO)⟩,⟨(ra HMs)⟩,⟨(tb HB)⟩⟩)
     rw [if_pos c8] at H;have b2:=beq_iff_eq.2 c8;clear c8
     by_cases c9:0≤(aC l1 i).f2
     case neg=>rw [if_neg c9] at H;cases H
     by_cases c10:(aC l1 i).f2 < (ws.length:Int)
     case neg=>rw [if_pos c9,if_neg c10] at H;cases H
     rw [if_pos c9,if_pos c10] at H;obtain ⟨aw,e_,hy⟩:=Kd.at_int (Kd.R_reads' HO.out).2.2 _ c9 c10;cases e_;rw [HL.out] at c10;have d9:decide (0≤(aC l1 i).f2)=true:=decide_eq_true c9;have d10:decide ((aC l1 i).f2 < (uA.length:Int))=true:=decide_eq_true c10;replace c9:=eq_true c9;replace c10:=eq_true c10
     by_cases c11:rd ws (aC l1 i).f2=(aC l1 i).f1
     ·rw [if_pos c11] at H;have b3:=bne_eq_false_iff_eq.2 c11;have H':=aA.mk H;clear H c11;go_wp2_with (first|(go_at_call 103;(try simp only [aJ,aK]);(with_reducible refine (bR.calls (aC l1 i).f0 _ _ HQ.out).mono ?_);rintro e w' ⟨rfl,⟨nd,rfl⟩⟩;(try exact dd)));(repeat (go_quiet (first|(go_at_call 103;(try simp only [aJ,aK]);(with_reducible refine (bR.calls (aC l1 i).f0 _ _ HQ.out).mono ?_);rintro e w' ⟨rfl,⟨nd,rfl⟩⟩;(try exact dd)));try go_wp2_with (first|(go_at_call 103;(try simp only [aJ,aK]);(with_reducible refine (bR.calls (aC l1 i).f0 _ _ HQ.out).mono ?_);rintro e w' ⟨rfl,⟨nd,rfl⟩⟩;(try exact dd)))));go_roundg k2;(case measure=>have:=HK1.out;omega);(case rel=>exact ⟨wrap64 (i + 1),rfl,H',⟨by have:=HK1.out;omega⟩,⟨(ra HO)⟩,⟨(ra HMs)⟩,⟨(tb HB)⟩⟩)
     ·rw [if_neg c11] at H;have b3:=bne_iff_ne.2 c11;obtain rfl:=os H;clear H c11;go_wp2_with (first|(go_at_call 103;(try simp only [aJ,aK]);(with_reducible refine (bR.calls (aC l1 i).f0 _ _ HQ.out).mono ?_);rintro e w' ⟨rfl,⟨nd,rfl⟩⟩;(try exact dd)));(repeat (go_quiet (first|(go_at_call 103;(try simp only [aJ,aK]);(with_reducible refine (bR.calls (aC l1 i).f0 _ _ HQ.out).mono ?_);rintro e w' ⟨rfl,⟨nd,rfl⟩⟩;(try exact dd)));try go_wp2_with (first|(go_at_call 103;(try simp only [aJ,aK]);(with_reducible refine (bR.calls (aC l1 i).f0 _ _ HQ.out).mono ?_);rintro e w' ⟨rfl,⟨nd,rfl⟩⟩;(try exact dd)))));go_ret;exact ⟨rfl,(tb HB)⟩
    ·rw [if_neg c5] at H;have d5:decide (i < (l1.length:Int))=false:=decide_eq_false c5;obtain rfl:=os H;clear H c5;go_wp2;go_ret;exact ⟨rfl,(tb HB)⟩
def bY.f (k:Nat) (a0:Int) (a1:Int) (a2:Int):Option (Bool):=(bV.f k a0 a1).bind fun A1=>(if A1=true then ((bV.f k a0 a2).bind fun A0=>(some A0)) else (some false))
theorem bY.calls (k:Nat) (a0:Int) (a1:Int) (a2:Int) (r:Bool) (w:World) (h:bY.f k a0 a1 a2=some r) :
  Calls Try.prog 177 #[.int .i64 a0,.int .i64 a1,.int .i64 a2] w fun e w'=>e = .returned (.bool r)∧bT w w':=by
 have H:((bV.f k a0 a1).bind fun A1=>(if A1=true then ((bV.f k a0 a2).bind fun A0=>(some A0)) else (some false)))=some r:=h;clear h;replace H:=ob H;obtain ⟨A1,A40,H⟩:=H;replace H:(if A1=true then ((bV.f k a0 a2).bind fun A0=>(some A0)) else (some false))=some r:=H;have A4:=aA.mk A40;clear A40
 by_cases c5:A1=true
 ·subst c5
  have H1:((bV.f k a0 a2).bind fun A0=>(some A0))=some r:=by rw [if_pos rfl] at H;exact H
  clear H;have H:=H1;clear H1;replace H:=ob H;obtain ⟨A0,A60,H⟩:=H;replace H:(some A0)=some r:=H;have A6:=aA.mk A60;clear A60;obtain rfl:=os H
  go_enter Try.func177,Try.ntmps177
  go_wp2_with (first|((with_reducible refine aD (f:=131) rfl ?_);refine aT (some 9) rfl rfl Try.func131 (by kernel_rfl) rfl #[.int .i64 a0,.int .i64 a1] rfl ml ?_;(with_reducible refine (bV.calls k a0 a1 true _ A4.out).mono ?_);rintro e w' ⟨rfl,⟨nd,rfl⟩⟩;refine ⟨_,rfl,?_⟩)|(go_at_call 131;(try simp only [aJ,aK]);(with_reducible refine (bV.calls k a0 a2 A0 _ A6.out).mono ?_);rintro e w' ⟨rfl,⟨nd,rfl⟩⟩));go_ret;exact ⟨e1,dn⟩
 ·replace c5:=Bool.eq_false_iff.mpr c5;subst c5
  have H1:(some false)=some r:=by rw [if_neg (show ¬ (false=true) by decide)] at H;exact H
  clear H;have H:=H1;clear H1;obtain rfl:=os H
  go_enter Try.func177,Try.ntmps177
  go_wp2_with (first|((with_reducible refine aD (f:=131) rfl ?_);refine aT (some 9) rfl rfl Try.func131 (by kernel_rfl) rfl #[.int .i64 a0,.int .i64 a1] rfl ml ?_;(with_reducible refine (bV.calls k a0 a1 false _ A4.out).mono ?_);rintro e w' ⟨rfl,⟨nd,rfl⟩⟩;refine ⟨_,rfl,?_⟩));go_ret;exact ⟨e1,dn⟩
def jC.f (k:Nat) (a0:Int) (a1:Int) (a2:Int):Option (Int):=(bY.f k a0 a1 a2).bind fun A1=>(if A1=true then ((aH.f k a0).bind fun A0=>(if A0=0 then (none) else (some (Int.tmod (wrap64 (a1 + a2)) A0)))) else (some 0))
theorem jC.calls (k:Nat) (a0:Int) (a1:Int) (a2:Int) (r:Int) (w:World) (h:jC.f k a0 a1 a2=some r) :
  Calls Try.prog 153 #[.int .i64 a0,.int .i64 a1,.int .i64 a2] w fun e w'=>e = .returned (.int .i64 r)∧bT w w':=by
 have H:((bY.f k a0 a1 a2).bind fun A1=>(if A1=true then ((aH.f k a0).bind fun A0=>(if A0=0 then (none) else (some (Int.tmod (wrap64 (a1 + a2)) A0)))) else (some 0)))=some r:=h;clear h;replace H:=ob H;obtain ⟨A1,A40,H⟩:=H
 try dsimp only at H
 have A4:=aA.mk A40;clear A40
 by_cases c5:A1=true
 ·subst c5
  have H1:((aH.f k a0).bind fun A0=>(if A0=0 then (none) else (some (Int.tmod (wrap64 (a1 + a2)) A0))))=some r:=by rw [if_pos rfl] at H;exact H
  clear H;have H:=H1;clear H1;replace H:=ob H;obtain ⟨A0,A60,H⟩:=H;replace H:(if A0=0 then (none) else (some (Int.tmod (wrap64 (a1 + a2)) A0)))=some r:=H;have A6:=aA.mk A60;clear A60
  by_cases c7:A0=0
  ·rw [if_pos c7] at H;exact absurd H (by simp)
  ·rw [if_neg c7] at H;have c7b0:(A0 == 0)=false:=beq_eq_false_iff_ne.mpr c7;have c7b1:(A0 != 0)=true:=bne_iff_ne.mpr c7;obtain rfl:=os H
   go_enter Try.func153,Try.ntmps153
   go_wp2_with (first|((with_reducible refine aD (f:=177) rfl ?_);refine aT (some 10) rfl rfl Try.func177 (by kernel_rfl) rfl #[.int .i64 a0,.int .i64 a1,.int .i64 a2] rfl ml ?_;(with_reducible refine (bY.calls k a0 a1 a2 true _ A4.out).mono ?_);rintro e w' ⟨rfl,⟨nd,rfl⟩⟩;refine ⟨_,rfl,?_⟩)|((with_reducible refine aD (f:=70) rfl ?_);refine aT (some 16) rfl rfl Try.func70 (by kernel_rfl) rfl #[.int .i64 a0] rfl ml ?_;(with_reducible refine (aH.calls k a0 A0 _ A6.out).mono ?_);rintro e w' ⟨rfl,⟨nd,rfl⟩⟩;refine ⟨_,rfl,?_⟩));go_ret;exact ⟨e1,dn⟩
 ·replace c5:=Bool.eq_false_iff.mpr c5;subst c5
  have H1:(some 0)=some r:=by rw [if_neg (show ¬ (false=true) by decide)] at H;exact H
  clear H;have H:=H1;clear H1;obtain rfl:=os H
  go_enter Try.func153,Try.ntmps153
  go_wp2_with (first|((with_reducible refine aD (f:=177) rfl ?_);refine aT (some 10) rfl rfl Try.func177 (by kernel_rfl) rfl #[.int .i64 a0,.int .i64 a1,.int .i64 a2] rfl ml ?_;(with_reducible refine (bY.calls k a0 a1 a2 false _ A4.out).mono ?_);rintro e w' ⟨rfl,⟨nd,rfl⟩⟩;refine ⟨_,rfl,?_⟩));go_ret;exact ⟨e1,dn⟩
def jK.f (k:Nat) (a0:Int) (a1:Int) (a2:Int):Option (Int):=(bY.f k a0 a1 a2).bind fun A1=>(if A1=true then (if a2=0 then ((aH.f k a0).bind fun A0=>(some (wrap64 (A0 - 1)))) else (some (wrap64 (Int.tdiv a1 a2)))) else (some 0))
theorem jK.calls (k:Nat) (a0:Int) (a1:Int) (a2:Int) (r:Int) (w:World) (h:jK.f k a0 a1 a2=some r) :
  Calls Try.prog 156 #[.int .i64 a0,.int .i64 a1,.int .i64 a2] w fun e w'=>e = .returned (.int .i64 r)∧bT w w':=by
 have H:((bY.f k a0 a1 a2).bind fun A1=>(if A1=true then (if a2=0 then ((aH.f k a0).bind fun A0=>(some (wrap64 (A0 - 1)))) else (some (wrap64 (Int.tdiv a1 a2)))) else (some 0)))=some r:=h;clear h;replace H:=ob H;obtain ⟨A1,A40,H⟩:=H
 try dsimp only at H
 have A4:=aA.mk A40;clear A40
 by_cases c5:A1=true
 ·subst c5
  have H1:(if a2=0 then ((aH.f k a0).bind fun A0=>(some (wrap64 (A0 - 1)))) else (some (wrap64 (Int.tdiv a1 a2))))=some r:=by rw [if_pos rfl] at H;exact H
  clear H;have H:=H1;clear H1
  by_cases c6:a2=0
  ·rw [if_pos c6] at H;have c6b0:(a2 == 0)=true:=beq_iff_eq.mpr c6;have c6b1:(a2 != 0)=false:=bne_eq_false_iff_eq.mpr c6;clear c6;replace H:=ob H;obtain ⟨A0,A70,H⟩:=H;replace H:(some (wrap64 (A0 - 1)))=some r:=H;have A7:=aA.mk A70;clear A70;obtain rfl:=os H
   go_enter Try.func156,Try.ntmps156
   go_wp2_with (first|((with_reducible refine aD (f:=177) rfl ?_);refine aT (some 10) rfl rfl Try.func177 (by kernel_rfl) rfl #[.int .i64 a0,.int .i64 a1,.int .i64 a2] rfl ml ?_;(with_reducible refine (bY.calls k a0 a1 a2 true _ A4.out).mono ?_);rintro e w' ⟨rfl,⟨nd,rfl⟩⟩;refine ⟨_,rfl,?_⟩)|((with_reducible refine aD (f:=70) rfl ?_);refine aT (some 15) rfl rfl Try.func70 (by kernel_rfl) rfl #[.int .i64 a0] rfl ml ?_;(with_reducible refine (aH.calls k a0 A0 _ A7.out).mono ?_);rintro e w' ⟨rfl,⟨nd,rfl⟩⟩;refine ⟨_,rfl,?_⟩));go_ret;exact ⟨e1,dn⟩
  ·rw [if_neg c6] at H;have c6b0:(a2 == 0)=false:=beq_eq_false_iff_ne.mpr c6;have c6b1:(a2 != 0)=true:=bne_iff_ne.mpr c6;obtain rfl:=os H
   go_enter Try.func156,Try.ntmps156
   go_wp2_with (first|((with_reducible refine aD (f:=177) rfl ?_);refine aT (some 10) rfl rfl Try.func177 (by kernel_rfl) rfl #[.int .i64 a0,.int .i64 a1,.int .i64 a2] rfl ml ?_;(with_reducible refine (bY.calls k a0 a1 a2 true _ A4.out).mono ?_);rintro e w' ⟨rfl,⟨nd,rfl⟩⟩;refine ⟨_,rfl,?_⟩));go_ret;exact ⟨e1,dn⟩
 ·replace c5:=Bool.eq_false_iff.mpr c5;subst c5
  have H1:(some 0)=some r:=by rw [if_neg (show ¬ (false=true) by decide)] at H;exact H
  clear H;have H:=H1;clear H1;obtain rfl:=os H
  go_enter Try.func156,Try.ntmps156
  go_wp2_with (first|((with_reducible refine aD (f:=177) rfl ?_);refine aT (some 10) rfl rfl Try.func177 (by kernel_rfl) rfl #[.int .i64 a0,.int .i64 a1,.int .i64 a2] rfl ml ?_;(with_reducible refine (bY.calls k a0 a1 a2 false _ A4.out).mono ?_);rintro e w' ⟨rfl,⟨nd,rfl⟩⟩;refine ⟨_,rfl,?_⟩));go_ret;exact ⟨e1,dn⟩
def iJ.f (k:Nat) (a0:Int) (a1:Int):Option (Int):=(bV.f k a0 a1).bind fun A1=>(if A1=true then ((aH.f k a0).bind fun A0=>(some (wrap64 ((wrap64 (A0 - 1)) - a1)))) else (some 0))
theorem iJ.calls (k:Nat) (a0:Int) (a1:Int) (r:Int) (w:World) (h:iJ.f k a0 a1=some r) :
  Calls Try.prog 152 #[.int .i64 a0,.int .i64 a1] w fun e w'=>e = .returned (.int .i64 r)∧bT w w':=by
 have H:((bV.f k a0 a1).bind fun A1=>(if A1=true then ((aH.f k a0).bind fun A0=>(some (wrap64 ((wrap64 (A0 - 1)) - a1)))) else (some 0)))=some r:=h;clear h;replace H:=ob H;obtain ⟨A1,A30,H⟩:=H;replace H:(if A1=true then ((aH.f k a0).bind fun A0=>(some (wrap64 ((wrap64 (A0 - 1)) - a1)))) else (some 0))=some r:=H;have A3:=aA.mk A30;clear A30
 by_cases c4:A1=true
 ·subst c4
  have H1:((aH.f k a0).bind fun A0=>(some (wrap64 ((wrap64 (A0 - 1)) - a1))))=some r:=by rw [if_pos rfl] at H;exact H
  clear H;have H:=H1;clear H1;replace H:=ob H;obtain ⟨A0,A50,H⟩:=H;replace H:(some (wrap64 ((wrap64 (A0 - 1)) - a1)))=some r:=H;have A5:=aA.mk A50;clear A50;obtain rfl:=os H
  go_enter Try.func152,Try.ntmps152
  go_wp2_with (first|((with_reducible refine aD (f:=131) rfl ?_);refine aT (some 7) rfl rfl Try.func131 (by kernel_rfl) rfl #[.int .i64 a0,.int .i64 a1] rfl ml ?_;(with_reducible refine (bV.calls k a0 a1 true _ A3.out).mono ?_);rintro e w' ⟨rfl,⟨nd,rfl⟩⟩;refine ⟨_,rfl,?_⟩)|((with_reducible refine aD (f:=70) rfl ?_);refine aT (some 10) rfl rfl Try.func70 (by kernel_rfl) rfl #[.int .i64 a0] rfl ml ?_;(with_reducible refine (aH.calls k a0 A0 _ A5.out).mono ?_);rintro e w' ⟨rfl,⟨nd,rfl⟩⟩;refine ⟨_,rfl,?_⟩));go_ret;exact ⟨e1,dn⟩
 ·replace c4:=Bool.eq_false_iff.mpr c4;subst c4
  have H1:(some 0)=some r:=by rw [if_neg (show ¬ (false=true) by decide)] at H;exact H
  clear H;have H:=H1;clear H1;obtain rfl:=os H
  go_enter Try.func152,Try.ntmps152
  go_wp2_with (first|((with_reducible refine aD (f:=131) rfl ?_);refine aT (some 7) rfl rfl Try.func131 (by kernel_rfl) rfl #[.int .i64 a0,.int .i64 a1] rfl ml ?_;(with_reducible refine (bV.calls k a0 a1 false _ A3.out).mono ?_);rintro e w' ⟨rfl,⟨nd,rfl⟩⟩;refine ⟨_,rfl,?_⟩));go_ret;exact ⟨e1,dn⟩
def cQ.f (a0:Bool):Option (Int):=if a0=true then (some 1) else (some 0)
theorem cQ.calls (a0:Bool) (r:Int) (w:World) (h:cQ.f a0=some r) :
  Calls Try.prog 160 #[.bool a0] w fun e w'=>e = .returned (.int .i64 r)∧bT w w':=by
 have H:(if a0=true then (some 1) else (some 0))=some r:=h;clear h
 by_cases c2:a0=true
 ·subst c2
  have H1:(some 1)=some r:=by rw [if_pos rfl] at H;exact H
  clear H;have H:=H1;clear H1;obtain rfl:=os H
  go_enter Try.func160,Try.ntmps160
  go_wp2;go_ret;exact ⟨e1,dn⟩
 ·replace c2:=Bool.eq_false_iff.mpr c2;subst c2
  have H1:(some 0)=some r:=by rw [if_neg (show ¬ (false=true) by decide)] at H;exact H
  clear H;have H:=H1;clear H1;obtain rfl:=os H
  go_enter Try.func160,Try.ntmps160
  go_wp2;go_ret;exact ⟨e1,dn⟩
def iL.f (k:Nat) (a0:Int) (a1:Int) (a2:Int):Option (Int):=(bY.f k a0 a1 a2).bind fun A2=>(if A2=true then ((cQ.f (decide (a1 < a2))).bind fun A0=>(some A0)) else ((cQ.f false).bind fun A1=>(some A1)))
theorem iL.calls (k:Nat) (a0:Int) (a1:Int) (a2:Int) (r:Int) (w:World) (h:iL.f k a0 a1 a2=some r) :
  Calls Try.prog 161 #[.int .i64 a0,.int .i64 a1,.int .i64 a2] w fun e w'=>e = .returned (.int .i64 r)∧bT w w':=by
 have H:((bY.f k a0 a1 a2).bind fun A2=>(if A2=true then ((cQ.f (decide (a1 < a2))).bind fun A0=>(some A0)) else ((cQ.f false).bind fun A1=>(some A1))))=some r:=h;clear h;replace H:=ob H;obtain ⟨A2,A40,H⟩:=H
 try dsimp only at H
 have A4:=aA.mk A40;clear A40
 by_cases c5:A2=true
 ·subst c5
  have H1:((cQ.f (decide (a1 < a2))).bind fun A0=>(some A0))=some r:=by rw [if_pos rfl] at H;exact H
  clear H;have H:=H1;clear H1;replace H:=ob H;obtain ⟨A0,A60,H⟩:=H;replace H:(some A0)=some r:=H;have A6:=aA.mk A60;clear A60;obtain rfl:=os H
  go_enter Try.func161,Try.ntmps161
  go_wp2_with (first|((with_reducible refine aD (f:=177) rfl ?_);refine aT (some 10) rfl rfl Try.func177 (by kernel_rfl) rfl #[.int .i64 a0,.int .i64 a1,.int .i64 a2] rfl ml ?_;(with_reducible refine (bY.calls k a0 a1 a2 true _ A4.out).mono ?_);rintro e w' ⟨rfl,⟨nd,rfl⟩⟩;refine ⟨_,rfl,?_⟩)|((with_reducible refine aD (f:=160) rfl ?_);refine aT (some 16) rfl rfl Try.func160 (by kernel_rfl) rfl #[.bool (decide (a1 < a2))] rfl ml ?_;(with_reducible refine (cQ.calls (decide (a1 < a2)) A0 _ A6.out).mono ?_);rintro e w' ⟨rfl,⟨nd,rfl⟩⟩;refine ⟨_,rfl,?_⟩));go_ret;exact ⟨e1,dn⟩
 ·replace c5:=Bool.eq_false_iff.mpr c5;subst c5
  have H1:((cQ.f false).bind fun A1=>(some A1))=some r:=by rw [if_neg (show ¬ (false=true) by decide)] at H;exact H
  clear H;have H:=H1;clear H1;replace H:=ob H;obtain ⟨A1,A70,H⟩:=H;replace H:(some A1)=some r:=H;have A7:=aA.mk A70;clear A70;obtain rfl:=os H
  go_enter Try.func161,Try.ntmps161
  go_wp2_with (first|((with_reducible refine aD (f:=177) rfl ?_);refine aT (some 10) rfl rfl Try.func177 (by kernel_rfl) rfl #[.int .i64 a0,.int .i64 a1,.int .i64 a2] rfl ml ?_;(with_reducible refine (bY.calls k a0 a1 a2 false _ A4.out).mono ?_);rintro e w' ⟨rfl,⟨nd,rfl⟩⟩;refine ⟨_,rfl,?_⟩)|((with_reducible refine aD (f:=160) rfl ?_);refine aT (some 16) rfl rfl Try.func160 (by kernel_rfl) rfl #[.bool false] rfl ml ?_;(with_reducible refine (cQ.calls false A1 _ A7.out).mono ?_);rintro e w' ⟨rfl,⟨nd,rfl⟩⟩;refine ⟨_,rfl,?_⟩));go_ret;exact ⟨e1,dn⟩
def eD.f (k:Nat) (a0:Int) (a1:Int):Option (Int):=(bV.f k a0 a1).bind fun A2=>(if A2=true then ((aH.f k (wrap64 (a0 - 1))).bind fun A0=>(if a1 ≥ A0 then ((aH.f k a0).bind fun A1=>(some (wrap64 (a1 - A1)))) else (some a1))) else (some 0))
theorem eD.calls (k:Nat) (a0:Int) (a1:Int) (r:Int) (w:World) (h:eD.f k a0 a1=some r) :
  Calls Try.prog 178 #[.int .i64 a0,.int .i64 a1] w fun e w'=>e = .returned (.int .i64 r)∧bT w w':=by
 have H:((bV.f k a0 a1).bind fun A2=>(if A2=true then ((aH.f k (wrap64 (a0 - 1))).bind fun A0=>(if a1 ≥ A0 then ((aH.f k a0).bind fun A1=>(some (wrap64 (a1 - A1)))) else (some a1))) else (some 0)))=some r:=h;clear h;replace H:=ob H;obtain ⟨A2,A30,H⟩:=H
 try dsimp only at H
 have A3:=aA.mk A30;clear A30
 by_cases c4:A2=true
 ·subst c4
  have H1:((aH.f k (wrap64 (a0 - 1))).bind fun A0=>(if a1 ≥ A0 then ((aH.f k a0).bind fun A1=>(some (wrap64 (a1 - A1)))) else (some a1)))=some r:=by rw [if_pos rfl] at H;exact H
  clear H;have H:=H1;clear H1;replace H:=ob H;obtain ⟨A0,A50,H⟩:=H;replace H:(if a1 ≥ A0 then ((aH.f k a0).bind fun A1=>(some (wrap64 (a1 - A1)))) else (some a1))=some r:=H;have A5:=aA.mk A50;clear A50
  by_cases c6:a1 ≥ A0
  ·rw [if_pos c6] at H;have c6b0:decide (A0≤a1)=true:=decide_eq_true c6;clear c6;replace H:=ob H;obtain ⟨A1,A70,H⟩:=H;replace H:(some (wrap64 (a1 - A1)))=some r:=H;have A7:=aA.mk A70;clear A70;obtain rfl:=os H
   go_enter Try.func178,Try.ntmps178
   go_wp2_with (first|((with_reducible refine aD (f:=131) rfl ?_);refine aT (some 7) rfl rfl Try.func131 (by kernel_rfl) rfl #[.int .i64 a0,.int .i64 a1] rfl ml ?_;(with_reducible refine (bV.calls k a0 a1 true _ A3.out).mono ?_);rintro e w' ⟨rfl,⟨nd,rfl⟩⟩;refine ⟨_,rfl,?_⟩)|((with_reducible refine aD (f:=70) rfl ?_);refine aT (some 12) rfl rfl Try.func70 (by kernel_rfl) rfl #[.int .i64 (wrap64 (a0 - 1))] rfl ml ?_;(with_reducible refine (aH.calls k (wrap64 (a0 - 1)) A0 _ A5.out).mono ?_);rintro e w' ⟨rfl,⟨nd,rfl⟩⟩;refine ⟨_,rfl,?_⟩)|((with_reducible refine aD (f:=70) rfl ?_);refine aT (some 16) rfl rfl Try.func70 (by kernel_rfl) rfl #[.int .i64 a0] rfl ml ?_;(with_reducible refine (aH.calls k a0 A1 _ A7.out).mono ?_);rintro e w' ⟨rfl,⟨nd,rfl⟩⟩;refine ⟨_,rfl,?_⟩));go_ret;exact ⟨e1,dn⟩
  ·rw [if_neg c6] at H;have c6b0:decide (A0≤a1)=false:=decide_eq_false c6;clear c6;obtain rfl:=os H
   go_enter Try.func178,Try.ntmps178
   go_wp2_with (first|((with_reducible refine aD (f:=131) rfl ?_);refine aT (some 7) rfl rfl Try.func131 (by kernel_rfl) rfl #[.int .i64 a0,.int .i64 a1] rfl ml ?_;(with_reducible refine (bV.calls k a0 a1 true _ A3.out).mono ?_);rintro e w' ⟨rfl,⟨nd,rfl⟩⟩;refine ⟨_,rfl,?_⟩)|((with_reducible refine aD (f:=70) rfl ?_);refine aT (some 12) rfl rfl Try.func70 (by kernel_rfl) rfl #[.int .i64 (wrap64 (a0 - 1))] rfl ml ?_;(with_reducible refine (aH.calls k (wrap64 (a0 - 1)) A0 _ A5.out).mono ?_);rintro e w' ⟨rfl,⟨nd,rfl⟩⟩;refine ⟨_,rfl,?_⟩));go_ret;exact ⟨e1,dn⟩
 ·replace c4:=Bool.eq_false_iff.mpr c4;subst c4
  have H1:(some 0)=some r:=by rw [if_neg (show ¬ (false=true) by decide)] at H;exact H
  clear H;have H:=H1;clear H1;obtain rfl:=os H
  go_enter Try.func178,Try.ntmps178
  go_wp2_with (first|((with_reducible refine aD (f:=131) rfl ?_);refine aT (some 7) rfl rfl Try.func131 (by kernel_rfl) rfl #[.int .i64 a0,.int .i64 a1] rfl ml ?_;(with_reducible refine (bV.calls k a0 a1 false _ A3.out).mono ?_);rintro e w' ⟨rfl,⟨nd,rfl⟩⟩;refine ⟨_,rfl,?_⟩));go_ret;exact ⟨e1,dn⟩
def fL.f (k:Nat) (a0:Int) (a1:Int) (a2:Int):Option (Int):=(bY.f k a0 a1 a2).bind fun A5=>(if A5=true then ((eD.f k a0 a1).bind fun A2=>((eD.f k a0 a2).bind fun A0=>((cQ.f (decide (A2 < A0))).bind fun A1=>(some A1)))) else ((cQ.f false).bind fun A3=>(some A3)))
theorem fL.calls (k:Nat) (a0:Int) (a1:Int) (a2:Int) (r:Int) (w:World) (h:fL.f k a0 a1 a2=some r) :
  Calls Try.prog 162 #[.int .i64 a0,.int .i64 a1,.int .i64 a2] w fun e w'=>e = .returned (.int .i64 r)∧bT w w':=by
 have H:((bY.f k a0 a1 a2).bind fun A5=>(if A5=true then ((eD.f k a0 a1).bind fun A2=>((eD.f k a0 a2).bind fun A0=>((cQ.f (decide (A2 < A0))).bind fun A1=>(some A1)))) else ((cQ.f false).bind fun A3=>(some A3))))=some r:=h;clear h;replace H:=ob H;obtain ⟨A5,A40,H⟩:=H
 try dsimp only at H
 have A4:=aA.mk A40;clear A40
 by_cases c5:A5=true
 ·subst c5
  have H1:((eD.f k a0 a1).bind fun A2=>((eD.f k a0 a2).bind fun A0=>((cQ.f (decide (A2 < A0))).bind fun A1=>(some A1))))=some r:=by rw [if_pos rfl] at H;exact H
  clear H;have H:=H1;clear H1;replace H:=ob H;obtain ⟨A2,A60,H⟩:=H;replace H:((eD.f k a0 a2).bind fun A0=>((cQ.f (decide (A2 < A0))).bind fun A1=>(some A1)))=some r:=H;have A6:=aA.mk A60;clear A60;replace H:=ob H;obtain ⟨A0,A70,H⟩:=H;replace H:((cQ.f (decide (A2 < A0))).bind fun A1=>(some A1))=some r:=H;have A7:=aA.mk A70;clear A70;replace H:=ob H;obtain ⟨A1,A80,H⟩:=H;replace H:(some A1)=some r:=H;have A8:=aA.mk A80;clear A80;obtain rfl:=os H
  go_enter Try.func162,Try.ntmps162
  go_wp2_with (first|((with_reducible refine aD (f:=177) rfl ?_);refine aT (some 10) rfl rfl Try.func177 (by kernel_rfl) rfl #[.int .i64 a0,.int .i64 a1,.int .i64 a2] rfl ml ?_;(with_reducible refine (bY.calls k a0 a1 a2 true _ A4.out).mono ?_);rintro e w' ⟨rfl,⟨nd,rfl⟩⟩;refine ⟨_,rfl,?_⟩)|(go_at_call 178;(try simp only [aJ,aK]);(with_reducible refine (eD.calls k a0 a1 A2 _ A6.out).mono ?_);rintro e w' ⟨rfl,⟨nd,rfl⟩⟩)|(go_at_call 178;(try simp only [aJ,aK]);(with_reducible refine (eD.calls k a0 a2 A0 _ A7.out).mono ?_);rintro e w' ⟨rfl,⟨nd,rfl⟩⟩)|((with_reducible refine aD (f:=160) rfl ?_);refine aT (some 20) rfl rfl Try.func160 (by kernel_rfl) rfl #[.bool (decide (A2 < A0))] rfl ml ?_;(with_reducible refine (cQ.calls (decide (A2 < A0)) A1 _ A8.out).mono ?_);rintro e w' ⟨rfl,⟨nd,rfl⟩⟩;refine ⟨_,rfl,?_⟩));go_ret;exact ⟨e1,dn⟩
 ·replace c5:=Bool.eq_false_iff.mpr c5;subst c5
  have H1:((cQ.f false).bind fun A3=>(some A3))=some r:=by rw [if_neg (show ¬ (false=true) by decide)] at H;exact H
  clear H;have H:=H1;clear H1;replace H:=ob H;obtain ⟨A3,A90,H⟩:=H;replace H:(some A3)=some r:=H;have A9:=aA.mk A90;clear A90;obtain rfl:=os H
  go_enter Try.func162,Try.ntmps162
  go_wp2_with (first|((with_reducible refine aD (f:=177) rfl ?_);refine aT (some 10) rfl rfl Try.func177 (by kernel_rfl) rfl #[.int .i64 a0,.int .i64 a1,.int .i64 a2] rfl ml ?_;(with_reducible refine (bY.calls k a0 a1 a2 false _ A4.out).mono ?_);rintro e w' ⟨rfl,⟨nd,rfl⟩⟩;refine ⟨_,rfl,?_⟩)|((with_reducible refine aD (f:=160) rfl ?_);refine aT (some 20) rfl rfl Try.func160 (by kernel_rfl) rfl #[.bool false] rfl ml ?_;(with_reducible refine (cQ.calls false A3 _ A9.out).mono ?_);rintro e w' ⟨rfl,⟨nd,rfl⟩⟩;refine ⟨_,rfl,?_⟩));go_ret;exact ⟨e1,dn⟩
def jF.f (k:Nat) (a0:Int) (a1:Int) (a2:Int):Option (Int):=(bY.f k a0 a1 a2).bind fun A1=>(if A1=true then ((aH.f k a0).bind fun A0=>(if A0=0 then (none) else (some (Int.tmod (wrap64 (a1 * a2)) A0)))) else (some 0))
theorem jF.calls (k:Nat) (a0:Int) (a1:Int) (a2:Int) (r:Int) (w:World) (h:jF.f k a0 a1 a2=some r) :
  Calls Try.prog 155 #[.int .i64 a0,.int .i64 a1,.int .i64 a2] w fun e w'=>e = .returned (.int .i64 r)∧bT w w':=by
 have H:((bY.f k a0 a1 a2).bind fun A1=>(if A1=true then ((aH.f k a0).bind fun A0=>(if A0=0 then (none) else (some (Int.tmod (wrap64 (a1 * a2)) A0)))) else (some 0)))=some r:=h;clear h;replace H:=ob H;obtain ⟨A1,A40,H⟩:=H
 try dsimp only at H
 have A4:=aA.mk A40;clear A40
 by_cases c5:A1=true
 ·subst c5
  have H1:((aH.f k a0).bind fun A0=>(if A0=0 then (none) else (some (Int.tmod (wrap64 (a1 * a2)) A0))))=some r:=by rw [if_pos rfl] at H;exact H
  clear H;have H:=H1;clear H1;replace H:=ob H;obtain ⟨A0,A60,H⟩:=H;replace H:(if A0=0 then (none) else (some (Int.tmod (wrap64 (a1 * a2)) A0)))=some r:=H;have A6:=aA.mk A60;clear A60
  by_cases c7:A0=0
  ·rw [if_pos c7] at H;exact absurd H (by simp)
  ·rw [if_neg c7] at H;have c7b0:(A0 == 0)=false:=beq_eq_false_iff_ne.mpr c7;have c7b1:(A0 != 0)=true:=bne_iff_ne.mpr c7;obtain rfl:=os H
   go_enter Try.func155,Try.ntmps155
   go_wp2_with (first|((with_reducible refine aD (f:=177) rfl ?_);refine aT (some 10) rfl rfl Try.func177 (by kernel_rfl) rfl #[.int .i64 a0,.int .i64 a1,.int .i64 a2] rfl ml ?_;(with_reducible refine (bY.calls k a0 a1 a2 true _ A4.out).mono ?_);rintro e w' ⟨rfl,⟨nd,rfl⟩⟩;refine ⟨_,rfl,?_⟩)|((with_reducible refine aD (f:=70) rfl ?_);refine aT (some 16) rfl rfl Try.func70 (by kernel_rfl) rfl #[.int .i64 a0] rfl ml ?_;(with_reducible refine (aH.calls k a0 A0 _ A6.out).mono ?_);rintro e w' ⟨rfl,⟨nd,rfl⟩⟩;refine ⟨_,rfl,?_⟩));go_ret;exact ⟨e1,dn⟩
 ·replace c5:=Bool.eq_false_iff.mpr c5;subst c5
  have H1:(some 0)=some r:=by rw [if_neg (show ¬ (false=true) by decide)] at H;exact H
  clear H;have H:=H1;clear H1;obtain rfl:=os H
  go_enter Try.func155,Try.ntmps155
  go_wp2_with (first|((with_reducible refine aD (f:=177) rfl ?_);refine aT (some 10) rfl rfl Try.func177 (by kernel_rfl) rfl #[.int .i64 a0,.int .i64 a1,.int .i64 a2] rfl ml ?_;(with_reducible refine (bY.calls k a0 a1 a2 false _ A4.out).mono ?_);rintro e w' ⟨rfl,⟨nd,rfl⟩⟩;refine ⟨_,rfl,?_⟩));go_ret;exact ⟨e1,dn⟩
def jJ.f (k:Nat) (a0:Int) (a1:Int) (a2:Int):Option (Int):=(bY.f k a0 a1 a2).bind fun A0=>(if A0=true then (if a2=0 then (some a1) else (some (Int.tmod a1 a2))) else (some 0))
theorem jJ.calls (k:Nat) (a0:Int) (a1:Int) (a2:Int) (r:Int) (w:World) (h:jJ.f k a0 a1 a2=some r) :
  Calls Try.prog 157 #[.int .i64 a0,.int .i64 a1,.int .i64 a2] w fun e w'=>e = .returned (.int .i64 r)∧bT w w':=by
 have H:((bY.f k a0 a1 a2).bind fun A0=>(if A0=true then (if a2=0 then (some a1) else (some (Int.tmod a1 a2))) else (some 0)))=some r:=h;clear h;replace H:=ob H;obtain ⟨A0,A40,H⟩:=H;replace H:(if A0=true then (if a2=0 then (some a1) else (some (Int.tmod a1 a2))) else (some 0))=some r:=H;have A4:=aA.mk A40;clear A40
 by_cases c5:A0=true
 ·subst c5
  have H1:(if a2=0 then (some a1) else (some (Int.tmod a1 a2)))=some r:=by rw [if_pos rfl] at H;exact H
  clear H;have H:=H1;clear H1
  by_cases c6:a2=0
  ·rw [if_pos c6] at H;have c6b0:(a2 == 0)=true:=beq_iff_eq.mpr c6;have c6b1:(a2 != 0)=false:=bne_eq_false_iff_eq.mpr c6;clear c6;obtain rfl:=os H
   go_enter Try.func157,Try.ntmps157
   go_wp2_with (first|((with_reducible refine aD (f:=177) rfl ?_);refine aT (some 10) rfl rfl Try.func177 (by kernel_rfl) rfl #[.int .i64 a0,.int .i64 a1,.int .i64 a2] rfl ml ?_;(with_reducible refine (bY.calls k a0 a1 a2 true _ A4.out).mono ?_);rintro e w' ⟨rfl,⟨nd,rfl⟩⟩;refine ⟨_,rfl,?_⟩));go_ret;exact ⟨e1,dn⟩
  ·rw [if_neg c6] at H;have c6b0:(a2 == 0)=false:=beq_eq_false_iff_ne.mpr c6;have c6b1:(a2 != 0)=true:=bne_iff_ne.mpr c6;obtain rfl:=os H
   go_enter Try.func157,Try.ntmps157
   go_wp2_with (first|((with_reducible refine aD (f:=177) rfl ?_);refine aT (some 10) rfl rfl Try.func177 (by kernel_rfl) rfl #[.int .i64 a0,.int .i64 a1,.int .i64 a2] rfl ml ?_;(with_reducible refine (bY.calls k a0 a1 a2 true _ A4.out).mono ?_);rintro e w' ⟨rfl,⟨nd,rfl⟩⟩;refine ⟨_,rfl,?_⟩));go_ret;exact ⟨e1,dn⟩
 ·replace c5:=Bool.eq_false_iff.mpr c5;subst c5
  have H1:(some 0)=some r:=by rw [if_neg (show ¬ (false=true) by decide)] at H;exact H
  clear H;have H:=H1;clear H1;obtain rfl:=os H
  go_enter Try.func157,Try.ntmps157
  go_wp2_with (first|((with_reducible refine aD (f:=177) rfl ?_);refine aT (some 10) rfl rfl Try.func177 (by kernel_rfl) rfl #[.int .i64 a0,.int .i64 a1,.int .i64 a2] rfl ml ?_;(with_reducible refine (bY.calls k a0 a1 a2 false _ A4.out).mono ?_);rintro e w' ⟨rfl,⟨nd,rfl⟩⟩;refine ⟨_,rfl,?_⟩));go_ret;exact ⟨e1,dn⟩
def eA.j0:Nat→Int→Int→Int→Bool→Option (Int)
 | 0,_,_,_,_=>none
 | k + 1,x0,x1,x2,x16=>if x16=true then (some 0) else ((aH.f k x2).bind fun A1=>((aH.f k x0).bind fun A0=>(if A0=0 then (none) else (some (Int.tmod (wrap64 (x1 * A1)) A0)))))
def eA.f (k:Nat) (a0:Int) (a1:Int) (a2:Int):Option (Int):=(bY.f k a0 a1 a2).bind fun A3=>(if A3=true then (eA.j0 k a0 a1 a2 (decide (a2 ≥ a0))) else (eA.j0 k a0 a1 a2 true))
theorem eA.calls (k:Nat) (a0:Int) (a1:Int) (a2:Int) (r:Int) (w:World) (h:eA.f k a0 a1 a2=some r) :
  Calls Try.prog 158 #[.int .i64 a0,.int .i64 a1,.int .i64 a2] w fun e w'=>e = .returned (.int .i64 r)∧bT w w':=by
 have H:((bY.f k a0 a1 a2).bind fun A3=>(if A3=true then (eA.j0 k a0 a1 a2 (decide (a2 ≥ a0))) else (eA.j0 k a0 a1 a2 true)))=some r:=h;clear h;have HC4:=aA.mk H;clear H
 go_enter Try.func158,Try.ntmps158
 go_upto_region 1 with (fail)
 go_cut [16] (fun v16 wc=>∃ (kq:Nat) (A2:Bool),v16 = .bool A2∧aA (eA.j0 kq a0 a1 a2 A2=some r)∧aA (kq≤k)∧bT w wc)
 case first =>
  have H:=HC4.out;clear HC4;replace H:=ob H;obtain ⟨A3,A50,H⟩:=H;replace H:(if A3=true then (eA.j0 k a0 a1 a2 (decide (a2 ≥ a0))) else (eA.j0 k a0 a1 a2 true))=some r:=H;have A5:=aA.mk A50;clear A50
  by_cases c6:A3=true
  ·subst c6
   have H1:(eA.j0 k a0 a1 a2 (decide (a2 ≥ a0)))=some r:=by rw [if_pos rfl] at H;exact H
   clear H;have H:=H1;clear H1;have H':=aA.mk H;clear H;go_wp2_with (first|((with_reducible refine aD (f:=177) rfl ?_);refine aT (some 10) rfl rfl Try.func177 (by kernel_rfl) rfl #[.int .i64 a0,.int .i64 a1,.int .i64 a2] rfl ml ?_;(with_reducible refine (bY.calls k a0 a1 a2 true _ A5.out).mono ?_);rintro e w' ⟨rfl,⟨nd,rfl⟩⟩;refine ⟨_,rfl,?_⟩));go_meet
   case rel=>exact ⟨_,(decide (a2 ≥ a0)),(by first|rfl|(simp;done)|(simp [*];done)),H',⟨by first|omega|exact Nat.le_refl _⟩,by repeat (first|exact bT.refl _|apply bT.step)⟩
  ·replace c6:=Bool.eq_false_iff.mpr c6;subst c6
   have H1:(eA.j0 k a0 a1 a2 true)=some r:=by rw [if_neg (show ¬ (false=true) by decide)] at H;exact H
   clear H;have H:=H1;clear H1;have H':=aA.mk H;clear H;go_wp2_with (first|((with_reducible refine aD (f:=177) rfl ?_);refine aT (some 10) rfl rfl Try.func177 (by kernel_rfl) rfl #[.int .i64 a0,.int .i64 a1,.int .i64 a2] rfl ml ?_;(with_reducible refine (bY.calls k a0 a1 a2 false _ A5.out).mono ?_);rintro e w' ⟨rfl,⟨nd,rfl⟩⟩;refine ⟨_,rfl,?_⟩));go_meet
   case rel=>exact ⟨_,(true),(by first|rfl|(simp;done)|(simp [*];done)),H',⟨by first|omega|exact Nat.le_refl _⟩,by repeat (first|exact bT.refl _|apply bT.step)⟩
 case rest =>
  clear HC4;obtain ⟨kq,A2,rfl,HA,HJ3,⟨mc3,rfl⟩⟩:=hcut
  cases kq with
  | zero=>exact absurd HA.out (by simp [eA.j0])
  | succ kj3 =>
   have H:=HA.out;clear HA;simp only [eA.j0] at H
   by_cases c7:A2=true
   ·subst c7
    have H1:(some 0)=some r:=by rw [if_pos rfl] at H;exact H
    clear H;have H:=H1;clear H1;obtain rfl:=os H;go_wp2;go_ret;exact ⟨e1,dn⟩
   ·replace c7:=Bool.eq_false_iff.mpr c7;subst c7
    have H1:((aH.f kj3 a2).bind fun A1=>((aH.f kj3 a0).bind fun A0=>(if A0=0 then (none) else (some (Int.tmod (wrap64 (a1 * A1)) A0)))))=some r:=by rw [if_neg (show ¬ (false=true) by decide)] at H;exact H
    clear H;have H:=H1;clear H1;replace H:=ob H;obtain ⟨A1,A80,H⟩:=H;replace H:((aH.f kj3 a0).bind fun A0=>(if A0=0 then (none) else (some (Int.tmod (wrap64 (a1 * A1)) A0))))=some r:=H;have A8:=aA.mk A80;clear A80;replace H:=ob H;obtain ⟨A0,A90,H⟩:=H;replace H:(if A0=0 then (none) else (some (Int.tmod (wrap64 (a1 * A1)) A0)))=some r:=H;have A9:=aA.mk A90;clear A90
    by_cases c10:A0=0
    ·rw [if_pos c10] at H;exact absurd H (by simp)
    ·rw [if_neg c10] at H;have c10b0:(A0 == 0)=false:=beq_eq_false_iff_ne.mpr c10;have c10b1:(A0 != 0)=true:=bne_iff_ne.mpr c10;obtain rfl:=os H;go_wp2_with (first|((with_reducible refine aD (f:=70) rfl ?_);refine aT (some 19) rfl rfl Try.func70 (by kernel_rfl) rfl #[.int .i64 a2] rfl ml ?_;(with_reducible refine (aH.calls kj3 a2 A1 _ A8.out).mono ?_);rintro e w' ⟨rfl,⟨nd,rfl⟩⟩;refine ⟨_,rfl,?_⟩)|((with_reducible refine aD (f:=70) rfl ?_);refine aT (some 22) rfl rfl Try.func70 (by kernel_rfl) rfl #[.int .i64 a0] rfl ml ?_;(with_reducible refine (aH.calls kj3 a0 A0 _ A9.out).mono ?_);rintro e w' ⟨rfl,⟨nd,rfl⟩⟩;refine ⟨_,rfl,?_⟩));go_ret;exact ⟨e1,dn⟩
def jA.f (k:Nat) (a0:Int) (a1:Int) (a2:Int):Option (Int):=(bY.f k a0 a1 a2).bind fun A1=>(if A1=true then (if a2 ≥ a0 then (some 0) else ((aH.f k a2).bind fun A0=>(if A0=0 then (none) else (some (wrap64 (Int.tdiv a1 A0)))))) else (some 0))
theorem jA.calls (k:Nat) (a0:Int) (a1:Int) (a2:Int) (r:Int) (w:World) (h:jA.f k a0 a1 a2=some r) :
  Calls Try.prog 159 #[.int .i64 a0,.int .i64 a1,.int .i64 a2] w fun e w'=>e = .returned (.int .i64 r)∧bT w w':=by
 have H:((bY.f k a0 a1 a2).bind fun A1=>(if A1=true then (if a2 ≥ a0 then (some 0) else ((aH.f k a2).bind fun A0=>(if A0=0 then (none) else (some (wrap64 (Int.tdiv a1 A0)))))) else (some 0)))=some r:=h;clear h;replace H:=ob H;obtain ⟨A1,A40,H⟩:=H
 try dsimp only at H
 have A4:=aA.mk A40;clear A40
 by_cases c5:A1=true
 ·subst c5
  have H1:(if a2 ≥ a0 then (some 0) else ((aH.f k a2).bind fun A0=>(if A0=0 then (none) else (some (wrap64 (Int.tdiv a1 A0))))))=some r:=by rw [if_pos rfl] at H;exact H
  clear H;have H:=H1;clear H1
  by_cases c6:a2 ≥ a0
  ·rw [if_pos c6] at H;have c6b0:decide (a0≤a2)=true:=decide_eq_true c6;clear c6;obtain rfl:=os H
   go_enter Try.func159,Try.ntmps159
   go_wp2_with (first|((with_reducible refine aD (f:=177) rfl ?_);refine aT (some 10) rfl rfl Try.func177 (by kernel_rfl) rfl #[.int .i64 a0,.int .i64 a1,.int .i64 a2] rfl ml ?_;(with_reducible refine (bY.calls k a0 a1 a2 true _ A4.out).mono ?_);rintro e w' ⟨rfl,⟨nd,rfl⟩⟩;refine ⟨_,rfl,?_⟩));go_ret;exact ⟨e1,dn⟩
  ·rw [if_neg c6] at H;have c6b0:decide (a0≤a2)=false:=decide_eq_false c6;clear c6;replace H:=ob H;obtain ⟨A0,A70,H⟩:=H;replace H:(if A0=0 then (none) else (some (wrap64 (Int.tdiv a1 A0))))=some r:=H;have A7:=aA.mk A70;clear A70
   by_cases c8:A0=0
   ·rw [if_pos c8] at H;exact absurd H (by simp)
   ·rw [if_neg c8] at H;have c8b0:(A0 == 0)=false:=beq_eq_false_iff_ne.mpr c8;have c8b1:(A0 != 0)=true:=bne_iff_ne.mpr c8;obtain rfl:=os H
    go_enter Try.func159,Try.ntmps159
    go_wp2_with (first|((with_reducible refine aD (f:=177) rfl ?_);refine aT (some 10) rfl rfl Try.func177 (by kernel_rfl) rfl #[.int .i64 a0,.int .i64 a1,.int .i64 a2] rfl ml ?_;(with_reducible refine (bY.calls k a0 a1 a2 true _ A4.out).mono ?_);rintro e w' ⟨rfl,⟨nd,rfl⟩⟩;refine ⟨_,rfl,?_⟩)|((with_reducible refine aD (f:=70) rfl ?_);refine aT (some 19) rfl rfl Try.func70 (by kernel_rfl) rfl #[.int .i64 a2] rfl ml ?_;(with_reducible refine (aH.calls k a2 A0 _ A7.out).mono ?_);rintro e w' ⟨rfl,⟨nd,rfl⟩⟩;refine ⟨_,rfl,?_⟩));go_ret;exact ⟨e1,dn⟩
 ·replace c5:=Bool.eq_false_iff.mpr c5;subst c5
  have H1:(some 0)=some r:=by rw [if_neg (show ¬ (false=true) by decide)] at H;exact H
  clear H;have H:=H1;clear H1;obtain rfl:=os H
  go_enter Try.func159,Try.ntmps159
  go_wp2_with (first|((with_reducible refine aD (f:=177) rfl ?_);refine aT (some 10) rfl rfl Try.func177 (by kernel_rfl) rfl #[.int .i64 a0,.int .i64 a1,.int .i64 a2] rfl ml ?_;(with_reducible refine (bY.calls k a0 a1 a2 false _ A4.out).mono ?_);rintro e w' ⟨rfl,⟨nd,rfl⟩⟩;refine ⟨_,rfl,?_⟩));go_ret;exact ⟨e1,dn⟩
def cY.j0:Nat→Int→Int→Int→Bool→Option (Int)
 | 0,_,_,_,_=>none
 | k + 1,x1,x2,x3,x24=>if x24=true then (some 0) else ((aH.f k x2).bind fun A1=>(if A1=0 then (none) else ((aH.f k x3).bind fun A0=>(if A0=0 then (none) else (some (Int.tmod (wrap64 (Int.tdiv x1 A1)) A0))))))
def cY.f (k:Nat) (a0:Int) (a1:Int) (a2:Int) (a3:Int):Option (Int):=(bV.f k a0 a1).bind fun A4=>(if A4=true then (if a2 < 0 then (cY.j0 k a1 a2 a3 true) else ((bD.f a3 1 (wrap64 (a0 - a2))).bind fun A2=>(cY.j0 k a1 a2 a3 (!A2)))) else (cY.j0 k a1 a2 a3 true))
theorem cY.calls (k:Nat) (a0:Int) (a1:Int) (a2:Int) (a3:Int) (r:Int) (w:World) (h:cY.f k a0 a1 a2 a3=some r) :
  Calls Try.prog 163 #[.int .i64 a0,.int .i64 a1,.int .i64 a2,.int .i64 a3] w fun e w'=>e = .returned (.int .i64 r)∧bT w w':=by
 have H:((bV.f k a0 a1).bind fun A4=>(if A4=true then (if a2 < 0 then (cY.j0 k a1 a2 a3 true) else ((bD.f a3 1 (wrap64 (a0 - a2))).bind fun A2=>(cY.j0 k a1 a2 a3 (!A2)))) else (cY.j0 k a1 a2 a3 true)))=some r:=h;clear h;have HC5:=aA.mk H;clear H
 go_enter Try.func163,Try.ntmps163
 go_upto_region 1 with (fail)
 repeat (go_quiet (fail);go_upto_region 1 with (fail))
 go_cut [24] (fun v24 wc=>∃ (kq:Nat) (A3:Bool),v24 = .bool A3∧aA (cY.j0 kq a1 a2 a3 A3=some r)∧aA (kq≤k)∧bT w wc)
 case first =>
  have H:=HC5.out;clear HC5;replace H:=ob H;obtain ⟨A4,A60,H⟩:=H
  try dsimp only at H
  have A6:=aA.mk A60;clear A60
  by_cases c7:A4=true
  ·subst c7
   have H1:(if a2 < 0 then (cY.j0 k a1 a2 a3 true) else ((bD.f a3 1 (wrap64 (a0 - a2))).bind fun A2=>(cY.j0 k a1 a2 a3 (!A2))))=some r:=by rw [if_pos rfl] at H;exact H
   clear H;have H:=H1;clear H1
   by_cases c8:a2 < 0
   ·rw [if_pos c8] at H;have c8b0:decide (a2 < 0)=true:=decide_eq_true c8;clear c8;(first|rw [c8b0]|(simp only [aJ,aK];rw [c8b0])|skip);have H':=aA.mk H;clear H;go_wp2_with (first|(go_at_call 131;(try simp only [aJ,aK]);(with_reducible refine (bV.calls k a0 a1 true _ A6.out).mono ?_);rintro e w' ⟨rfl,⟨nd,rfl⟩⟩;(try exact dd)))
    repeat (go_quiet (first|(go_at_call 131;(try simp only [aJ,aK]);(with_reducible refine (bV.calls k a0 a1 true _ A6.out).mono ?_);rintro e w' ⟨rfl,⟨nd,rfl⟩⟩;(try exact dd)));try go_wp2_with (first|(go_at_call 131;(try simp only [aJ,aK]);(with_reducible refine (bV.calls k a0 a1 true _ A6.out).mono ?_);rintro e w' ⟨rfl,⟨nd,rfl⟩⟩;(try exact dd))))
    go_meet
    case rel=>exact ⟨_,(true),(by first|rfl|(simp;done)|(simp [*];done)),H',⟨by first|omega|exact Nat.le_refl _⟩,by repeat (first|exact bT.refl _|apply bT.step)⟩
   ·rw [if_neg c8] at H;have c8b0:decide (a2 < 0)=false:=decide_eq_false c8;clear c8;(first|rw [c8b0]|(simp only [aJ,aK];rw [c8b0])|skip);replace H:=ob H;obtain ⟨A2,A90,H⟩:=H;replace H:(cY.j0 k a1 a2 a3 (!A2))=some r:=H;have A9:=aA.mk A90;clear A90;have H':=aA.mk H;clear H;go_wp2_with (first|(go_at_call 131;(try simp only [aJ,aK]);(with_reducible refine (bV.calls k a0 a1 true _ A6.out).mono ?_);rintro e w' ⟨rfl,⟨nd,rfl⟩⟩;(try exact dd))|(go_at_call 69;(try simp only [aJ,aK]);(with_reducible refine (bD.calls a3 1 (wrap64 (a0 - a2)) A2 _ A9.out).mono ?_);rintro e w' ⟨rfl,⟨nd,rfl⟩⟩;(try exact dd)))
    repeat (go_quiet (first|(go_at_call 131;(try simp only [aJ,aK]);(with_reducible refine (bV.calls k a0 a1 true _ A6.out).mono ?_);rintro e w' ⟨rfl,⟨nd,rfl⟩⟩;(try exact dd))|(go_at_call 69;(try simp only [aJ,aK]);(with_reducible refine (bD.calls a3 1 (wrap64 (a0 - a2)) A2 _ A9.out).mono ?_);rintro e w' ⟨rfl,⟨nd,rfl⟩⟩;(try exact dd)));try go_wp2_with (first|(go_at_call 131;(try simp only [aJ,aK]);(with_reducible refine (bV.calls k a0 a1 true _ A6.out).mono ?_);rintro e w' ⟨rfl,⟨nd,rfl⟩⟩;(try exact dd))|(go_at_call 69;(try simp only [aJ,aK]);(with_reducible refine (bD.calls a3 1 (wrap64 (a0 - a2)) A2 _ A9.out).mono ?_);rintro e w' ⟨rfl,⟨nd,rfl⟩⟩;(try exact dd))))
    go_meet
    case rel=>exact ⟨_,(!A2),(by first|rfl|(simp;done)|(simp [*];done)),H',⟨by first|omega|exact Nat.le_refl _⟩,by repeat (first|exact bT.refl _|apply bT.step)⟩
  ·replace c7:=Bool.eq_false_iff.mpr c7;subst c7
   have H1:(cY.j0 k a1 a2 a3 true)=some r:=by rw [if_neg (show ¬ (false=true) by decide)] at H;exact H
   clear H;have H:=H1;clear H1;have H':=aA.mk H;clear H;go_wp2_with (first|(go_at_call 131;(try simp only [aJ,aK]);(with_reducible refine (bV.calls k a0 a1 false _ A6.out).mono ?_);rintro e w' ⟨rfl,⟨nd,rfl⟩⟩;(try exact dd)))
   repeat (go_quiet (first|(go_at_call 131;(try simp only [aJ,aK]);(with_reducible refine (bV.calls k a0 a1 false _ A6.out).mono ?_);rintro e w' ⟨rfl,⟨nd,rfl⟩⟩;(try exact dd)));try go_wp2_with (first|(go_at_call 131;(try simp only [aJ,aK]);(with_reducible refine (bV.calls k a0 a1 false _ A6.out).mono ?_);rintro e w' ⟨rfl,⟨nd,rfl⟩⟩;(try exact dd))))
   go_meet
   case rel=>exact ⟨_,(true),(by first|rfl|(simp;done)|(simp [*];done)),H',⟨by first|omega|exact Nat.le_refl _⟩,by repeat (first|exact bT.refl _|apply bT.step)⟩
 case rest =>
  clear HC5;obtain ⟨kq,A3,rfl,HA,HJ4,⟨mc4,rfl⟩⟩:=hcut
  cases kq with
  | zero=>exact absurd HA.out (by simp [cY.j0])
  | succ kj4 =>
   have H:=HA.out;clear HA;simp only [cY.j0] at H
   by_cases c10:A3=true
   ·subst c10
    have H1:(some 0)=some r:=by rw [if_pos rfl] at H;exact H
    clear H;have H:=H1;clear H1;obtain rfl:=os H;go_wp2
    repeat (go_quiet (fail);try go_wp2)
    go_ret;exact ⟨e1,dn⟩
   ·replace c10:=Bool.eq_false_iff.mpr c10;subst c10
    have H1:((aH.f kj4 a2).bind fun A1=>(if A1=0 then (none) else ((aH.f kj4 a3).bind fun A0=>(if A0=0 then (none) else (some (Int.tmod (wrap64 (Int.tdiv a1 A1)) A0))))))=some r:=by rw [if_neg (show ¬ (false=true) by decide)] at H;exact H
    clear H;have H:=H1;clear H1;replace H:=ob H;obtain ⟨A1,A110,H⟩:=H
    try dsimp only at H
    have A11:=aA.mk A110;clear A110
    by_cases c12:A1=0
    ·rw [if_pos c12] at H;exact absurd H (by simp)
    ·rw [if_neg c12] at H;have c12b0:(A1 == 0)=false:=beq_eq_false_iff_ne.mpr c12;have c12b1:(A1 != 0)=true:=bne_iff_ne.mpr c12;replace H:=ob H;obtain ⟨A0,A130,H⟩:=H;replace H:(if A0=0 then (none) else (some (Int.tmod (wrap64 (Int.tdiv a1 A1)) A0)))=some r:=H;have A13:=aA.mk A130;clear A130
     by_cases c14:A0=0
     ·rw [if_pos c14] at H;exact absurd H (by simp)
     ·rw [if_neg c14] at H;have c14b0:(A0 == 0)=false:=beq_eq_false_iff_ne.mpr c14;have c14b1:(A0 != 0)=true:=bne_iff_ne.mpr c14;obtain rfl:=os H;go_wp2_with (first|(go_at_call 70;(try simp only [aJ,aK]);(with_reducible refine (aH.calls kj4 a2 A1 _ A11.out).mono ?_);rintro e w' ⟨rfl,⟨nd,rfl⟩⟩;(try exact dd))|(go_at_call 70;(try simp only [aJ,aK]);(with_reducible refine (aH.calls kj4 a3 A0 _ A13.out).mono ?_);rintro e w' ⟨rfl,⟨nd,rfl⟩⟩;(try exact dd)))
      repeat (go_quiet (first|(go_at_call 70;(try simp only [aJ,aK]);(with_reducible refine (aH.calls kj4 a2 A1 _ A11.out).mono ?_);rintro e w' ⟨rfl,⟨nd,rfl⟩⟩;(try exact dd))|(go_at_call 70;(try simp only [aJ,aK]);(with_reducible refine (aH.calls kj4 a3 A0 _ A13.out).mono ?_);rintro e w' ⟨rfl,⟨nd,rfl⟩⟩;(try exact dd)));try go_wp2_with (first|(go_at_call 70;(try simp only [aJ,aK]);(with_reducible refine (aH.calls kj4 a2 A1 _ A11.out).mono ?_);rintro e w' ⟨rfl,⟨nd,rfl⟩⟩;(try exact dd))|(go_at_call 70;(try simp only [aJ,aK]);(with_reducible refine (aH.calls kj4 a3 A0 _ A13.out).mono ?_);rintro e w' ⟨rfl,⟨nd,rfl⟩⟩;(try exact dd))))
      go_ret;exact ⟨e1,dn⟩
def jB.f (k:Nat) (a0:Int) (a1:Int) (a2:Int):Option (Int):=(bY.f k a0 a1 a2).bind fun A2=>(if A2=true then ((aH.f k a0).bind fun A1=>((aH.f k a0).bind fun A0=>(if A0=0 then (none) else (some (Int.tmod (wrap64 ((wrap64 (a1 + A1)) - a2)) A0))))) else (some 0))
theorem jB.calls (k:Nat) (a0:Int) (a1:Int) (a2:Int) (r:Int) (w:World) (h:jB.f k a0 a1 a2=some r) :
  Calls Try.prog 154 #[.int .i64 a0,.int .i64 a1,.int .i64 a2] w fun e w'=>e = .returned (.int .i64 r)∧bT w w':=by
 have H:((bY.f k a0 a1 a2).bind fun A2=>(if A2=true then ((aH.f k a0).bind fun A1=>((aH.f k a0).bind fun A0=>(if A0=0 then (none) else (some (Int.tmod (wrap64 ((wrap64 (a1 + A1)) - a2)) A0))))) else (some 0)))=some r:=h;clear h;replace H:=ob H;obtain ⟨A2,A40,H⟩:=H
 try dsimp only at H
 have A4:=aA.mk A40;clear A40
 by_cases c5:A2=true
 ·subst c5
  have H1:((aH.f k a0).bind fun A1=>((aH.f k a0).bind fun A0=>(if A0=0 then (none) else (some (Int.tmod (wrap64 ((wrap64 (a1 + A1)) - a2)) A0)))))=some r:=by rw [if_pos rfl] at H;exact H
  clear H;have H:=H1;clear H1;replace H:=ob H;obtain ⟨A1,A60,H⟩:=H
  try dsimp only at H
  have A6:=aA.mk A60;clear A60;replace H:=ob H;obtain ⟨A0,A70,H⟩:=H;replace H:(if A0=0 then (none) else (some (Int.tmod (wrap64 ((wrap64 (a1 + A1)) - a2)) A0)))=some r:=H;have A7:=aA.mk A70;clear A70
  by_cases c8:A0=0
  ·rw [if_pos c8] at H;exact absurd H (by simp)
  ·rw [if_neg c8] at H;have c8b0:(A0 == 0)=false:=beq_eq_false_iff_ne.mpr c8;have c8b1:(A0 != 0)=true:=bne_iff_ne.mpr c8;obtain rfl:=os H
   go_enter Try.func154,Try.ntmps154
   go_wp2_with (first|((with_reducible refine aD (f:=177) rfl ?_);refine aT (some 10) rfl rfl Try.func177 (by kernel_rfl) rfl #[.int .i64 a0,.int .i64 a1,.int .i64 a2] rfl ml ?_;(with_reducible refine (bY.calls k a0 a1 a2 true _ A4.out).mono ?_);rintro e w' ⟨rfl,⟨nd,rfl⟩⟩;refine ⟨_,rfl,?_⟩)|((with_reducible refine aD (f:=70) rfl ?_);refine aT (some 14) rfl rfl Try.func70 (by kernel_rfl) rfl #[.int .i64 a0] rfl ml ?_;(with_reducible refine (aH.calls k a0 A1 _ A6.out).mono ?_);rintro e w' ⟨rfl,⟨nd,rfl⟩⟩;refine ⟨_,rfl,?_⟩)|((with_reducible refine aD (f:=70) rfl ?_);refine aT (some 19) rfl rfl Try.func70 (by kernel_rfl) rfl #[.int .i64 a0] rfl ml ?_;(with_reducible refine (aH.calls k a0 A0 _ A7.out).mono ?_);rintro e w' ⟨rfl,⟨nd,rfl⟩⟩;refine ⟨_,rfl,?_⟩));go_ret;exact ⟨e1,dn⟩
 ·replace c5:=Bool.eq_false_iff.mpr c5;subst c5
  have H1:(some 0)=some r:=by rw [if_neg (show ¬ (false=true) by decide)] at H;exact H
  clear H;have H:=H1;clear H1;obtain rfl:=os H
  go_enter Try.func154,Try.ntmps154
  go_wp2_with (first|((with_reducible refine aD (f:=177) rfl ?_);refine aT (some 10) rfl rfl Try.func177 (by kernel_rfl) rfl #[.int .i64 a0,.int .i64 a1,.int .i64 a2] rfl ml ?_;(with_reducible refine (bY.calls k a0 a1 a2 false _ A4.out).mono ?_);rintro e w' ⟨rfl,⟨nd,rfl⟩⟩;refine ⟨_,rfl,?_⟩));go_ret;exact ⟨e1,dn⟩
def cG.j0:Nat→Int→Int→Int→Int→Bool→Int→Int→Int→Int→Int→Int→Option (Int)
 | 0,_,_,_,_,_,_,_,_,_,_,_=>none
 | k + 1,x1,x2,x3,x4,x34,x102000,x102001,x102002,x102003,x102004,x102005=>if x34=true then (some 0) else (if x102000=0 then (some x102002) else (if x102000=2 then ((iJ.f k x102001 x2).bind fun Ad=>(some Ad)) else (if x102000=3 then (some (Go.bits .and .i64 x2 x3)) else (if x102000=4 then (some (Go.bits .or .i64 x2 x3)) else (if x102000=5 then (some (Go.bits .xor .i64 x2 x3)) else (if x102000=6 then ((jC.f k x102001 x2 x3).bind fun Ae=>(some Ae)) else (if x102000=7 then ((jB.f k x102001 x2 x3).bind fun Af=>(some Af)) else (if x102000=8 then ((jF.f k x102001 x2 x3).bind fun Ag=>(some Ag)) else (if x102000=9 then ((jK.f k x102001 x2 x3).bind fun Ah=>(some Ah)) else (if x102000=10 then ((jJ.f k x102001 x2 x3).bind fun Ai=>(some Ai)) else (if x102000=11 then ((eA.f k x102001 x2 x3).bind fun Aj=>(some Aj)) else (if x102000=12 then ((jA.f k x102001 x2 x3).bind fun Ak=>(some Ak)) else (if x102000=13 then ((cQ.f (x2 == x3)).bind fun Al=>(some Al)) else (if x102000=14 then ((iL.f k x1 x2 x3).bind fun Am=>(some Am)) else (if x102000=15 then ((fL.f k x1 x2 x3).bind fun An=>(some An)) else (if x102000=16 then (if x102001 < x1 then (some x3) else ((aH.f k (wrap64 (x102001 - x1))).bind fun Ao=>(some (wrap64 ((wrap64 (x2 * Ao)) + x3))))) else (if x102000=17 then ((cY.f k x1 x2 x102002 x102001).bind fun Ap=>(some Ap)) else (if x102000=18 then (if x2=1 then (some x3) else (some x4)) else (some 0)))))))))))))))))))
def cG.f (k:Nat) (A0:Int) (A2:Int) (A3:Int) (A4:Int) (A5:Int) (A6:Int) (a1:Int) (a2:Int) (a3:Int) (a4:Int):Option (Int):=(bD.f A2 1 8).bind fun Aq=>(if Aq=true then ((bD.f a1 1 8).bind fun Ab=>(if Ab=true then ((bD.f a2 0 255).bind fun Aa=>(if Aa=true then ((bD.f a3 0 255).bind fun A9=>(if A9=true then ((bD.f a4 0 255).bind fun A7=>(cG.j0 k a1 a2 a3 a4 (!A7) A0 A2 A3 A4 A5 A6)) else (cG.j0 k a1 a2 a3 a4 true A0 A2 A3 A4 A5 A6))) else (cG.j0 k a1 a2 a3 a4 true A0 A2 A3 A4 A5 A6))) else (cG.j0 k a1 a2 a3 a4 true A0 A2 A3 A4 A5 A6))) else (cG.j0 k a1 a2 a3 a4 true A0 A2 A3 A4 A5 A6))
theorem cG.calls (k:Nat) (A0:Int) (A2:Int) (A3:Int) (A4:Int) (A5:Int) (A6:Int) (a1:Int) (a2:Int) (a3:Int) (a4:Int) (r:Int) (w:World) (h:cG.f k A0 A2 A3 A4 A5 A6 a1 a2 a3 a4=some r) :
  Calls Try.prog 135 #[.agg #[.int .i64 A0,.int .i64 A2,.int .i64 A3,.int .i64 A4,.int .i64 A5,.int .i64 A6],.int .i64 a1,.int .i64 a2,.int .i64 a3,.int .i64 a4] w fun e w'=>e = .returned (.int .i64 r)∧Below w.heap.size w w':=by
 have hu99:=Try.underlying99;have HB:=aA.mk (Below.refl w.heap.size w);have H:((bD.f A2 1 8).bind fun Aq=>(if Aq=true then ((bD.f a1 1 8).bind fun Ab=>(if Ab=true then ((bD.f a2 0 255).bind fun Aa=>(if Aa=true then ((bD.f a3 0 255).bind fun A9=>(if A9=true then ((bD.f a4 0 255).bind fun A7=>(cG.j0 k a1 a2 a3 a4 (!A7) A0 A2 A3 A4 A5 A6)) else (cG.j0 k a1 a2 a3 a4 true A0 A2 A3 A4 A5 A6))) else (cG.j0 k a1 a2 a3 a4 true A0 A2 A3 A4 A5 A6))) else (cG.j0 k a1 a2 a3 a4 true A0 A2 A3 A4 A5 A6))) else (cG.j0 k a1 a2 a3 a4 true A0 A2 A3 A4 A5 A6)))=some r:=h;clear h;have HC6:=aA.mk H;clear H
 go_enter Try.func135,Try.ntmps135
 go_upto_region 1 with (first|((with_reducible refine bM (N:=5) rfl ?_);refine bx (N:=5) (cs:=#[.int .i64 A0,.int .i64 A2,.int .i64 A3,.int .i64 A4,.int .i64 A5,.int .i64 A6]) (t:=99) ?_;intro Ar hg w7 hbox hb;have A1:=aA.mk (hbox);have GW101:=aA.mk ((by rw [hg];exact (aM (tb HB)):w.heap.size≤Ar));have GE101:=aA.mk ((by rw [hg];exact (aM (tb HB)):w.heap.size≤Ar));replace HB:=aA.mk (aE (tb HB) hb);clear hb hbox hg))
 (try simp only [Act.put,List.setIfInBounds_toArray,List.set_cons_zero,List.set_cons_succ])
 go_cut [34] (fun v34 wc=>∃ (kq:Nat) (Ac:Bool),v34 = .bool Ac∧aA (cG.j0 kq a1 a2 a3 a4 Ac A0 A2 A3 A4 A5 A6=some r)∧aA (kq≤k)∧aA (wc.heap[Ar]? = some (.cells #[.int .i64 A0,.int .i64 A2,.int .i64 A3,.int .i64 A4,.int .i64 A5,.int .i64 A6] 99 (0,0)))∧aA (Below w.heap.size w wc))
 case first =>
  have H:=HC6.out;clear HC6;replace H:=ob H;obtain ⟨Aq,A80,H⟩:=H
  try dsimp only at H
  have A8:=aA.mk A80;clear A80
  by_cases c9:Aq=true
  ·subst c9
   have H1:((bD.f a1 1 8).bind fun Ab=>(if Ab=true then ((bD.f a2 0 255).bind fun Aa=>(if Aa=true then ((bD.f a3 0 255).bind fun A9=>(if A9=true then ((bD.f a4 0 255).bind fun A7=>(cG.j0 k a1 a2 a3 a4 (!A7) A0 A2 A3 A4 A5 A6)) else (cG.j0 k a1 a2 a3 a4 true A0 A2 A3 A4 A5 A6))) else (cG.j0 k a1 a2 a3 a4 true A0 A2 A3 A4 A5 A6))) else (cG.j0 k a1 a2 a3 a4 true A0 A2 A3 A4 A5 A6)))=some r:=by rw [if_pos rfl] at H;exact H
   clear H;have H:=H1;clear H1;replace H:=ob H;obtain ⟨Ab,A100,H⟩:=H
   try dsimp only at H
   have A10:=aA.mk A100;clear A100
   by_cases c11:Ab=true
   ·subst c11
    have H1:((bD.f a2 0 255).bind fun Aa=>(if Aa=true then ((bD.f a3 0 255).bind fun A9=>(if A9=true then ((bD.f a4 0 255).bind fun A7=>(cG.j0 k a1 a2 a3 a4 (!A7) A0 A2 A3 A4 A5 A6)) else (cG.j0 k a1 a2 a3 a4 true A0 A2 A3 A4 A5 A6))) else (cG.j0 k a1 a2 a3 a4 true A0 A2 A3 A4 A5 A6)))=some r:=by rw [if_pos rfl] at H;exact H
    clear H;have H:=H1;clear H1;replace H:=ob H;obtain ⟨Aa,A120,H⟩:=H
    try dsimp only at H
    have A12:=aA.mk A120;clear A120
    by_cases c13:Aa=true
    ·subst c13
     have H1:((bD.f a3 0 255).bind fun A9=>(if A9=true then ((bD.f a4 0 255).bind fun A7=>(cG.j0 k a1 a2 a3 a4 (!A7) A0 A2 A3 A4 A5 A6)) else (cG.j0 k a1 a2 a3 a4 true A0 A2 A3 A4 A5 A6)))=some r:=by rw [if_pos rfl] at H;exact H
     clear H;have H:=H1;clear H1;replace H:=ob H;obtain ⟨A9,A140,H⟩:=H
     try dsimp only at H
     have A14:=aA.mk A140;clear A140
     by_cases c15:A9=true
     ·subst c15
      have H1:((bD.f a4 0 255).bind fun A7=>(cG.j0 k a1 a2 a3 a4 (!A7) A0 A2 A3 A4 A5 A6))=some r:=by rw [if_pos rfl] at H;exact H
      clear H;have H:=H1;clear H1;replace H:=ob H;obtain ⟨A7,A160,H⟩:=H;replace H:(cG.j0 k a1 a2 a3 a4 (!A7) A0 A2 A3 A4 A5 A6)=some r:=H;have A16:=aA.mk A160;clear A160;have H':=aA.mk H;clear H;have hcz17__:=eM A1;have hfz17__:=f_ A1;go_wp2_with (first|((with_reducible refine aD (f:=69) rfl ?_);refine aT (some 13) rfl rfl Try.func69 (by kernel_rfl) rfl #[.int .i64 A2,.int .i64 1,.int .i64 8] rfl ml ?_;(with_reducible refine (bD.calls A2 1 8 true _ A8.out).mono ?_);rintro e w' ⟨rfl,⟨nd,rfl⟩⟩;refine ⟨_,rfl,?_⟩)|(go_at_call 69;(try simp only [aJ,aK]);(with_reducible refine (bD.calls a1 1 8 true _ A10.out).mono ?_);rintro e w' ⟨rfl,⟨nd,rfl⟩⟩)|(go_at_call 69;(try simp only [aJ,aK]);(with_reducible refine (bD.calls a2 0 255 true _ A12.out).mono ?_);rintro e w' ⟨rfl,⟨nd,rfl⟩⟩)|(go_at_call 69;(try simp only [aJ,aK]);(with_reducible refine (bD.calls a3 0 255 true _ A14.out).mono ?_);rintro e w' ⟨rfl,⟨nd,rfl⟩⟩)|(go_at_call 69;(try simp only [aJ,aK]);(with_reducible refine (bD.calls a4 0 255 A7 _ A16.out).mono ?_);rintro e w' ⟨rfl,⟨nd,rfl⟩⟩));go_meet
      case rel=>exact ⟨_,(!A7),(by first|rfl|(simp;done)|(simp [*];done)),H',⟨by first|omega|exact Nat.le_refl _⟩,⟨dr A1⟩,⟨by exact tb HB⟩⟩
     ·replace c15:=Bool.eq_false_iff.mpr c15;subst c15
      have H1:(cG.j0 k a1 a2 a3 a4 true A0 A2 A3 A4 A5 A6)=some r:=by rw [if_neg (show ¬ (false=true) by decide)] at H;exact H
      clear H;have H:=H1;clear H1;have H':=aA.mk H;clear H;have hcz18__:=eM A1;have hfz18__:=f_ A1;go_wp2_with (first|((with_reducible refine aD (f:=69) rfl ?_);refine aT (some 13) rfl rfl Try.func69 (by kernel_rfl) rfl #[.int .i64 A2,.int .i64 1,.int .i64 8] rfl ml ?_;(with_reducible refine (bD.calls A2 1 8 true _ A8.out).mono ?_);rintro e w' ⟨rfl,⟨nd,rfl⟩⟩;refine ⟨_,rfl,?_⟩)|(go_at_call 69;(try simp only [aJ,aK]);(with_reducible refine (bD.calls a1 1 8 true _ A10.out).mono ?_);rintro e w' ⟨rfl,⟨nd,rfl⟩⟩)|(go_at_call 69;(try simp only [aJ,aK]);(with_reducible refine (bD.calls a2 0 255 true _ A12.out).mono ?_);rintro e w' ⟨rfl,⟨nd,rfl⟩⟩)|(go_at_call 69;(try simp only [aJ,aK]);(with_reducible refine (bD.calls a3 0 255 false _ A14.out).mono ?_);rintro e w' ⟨rfl,⟨nd,rfl⟩⟩));go_meet
      case rel=>exact ⟨_,(true),(by first|rfl|(simp;done)|(simp [*];done)),H',⟨by first|omega|exact Nat.le_refl _⟩,⟨dr A1⟩,⟨by exact tb HB⟩⟩
    ·replace c13:=Bool.eq_false_iff.mpr c13;subst c13
     have H1:(cG.j0 k a1 a2 a3 a4 true A0 A2 A3 A4 A5 A6)=some r:=by rw [if_neg (show ¬ (false=true) by decide)] at H;exact H
     clear H;have H:=H1;clear H1;have H':=aA.mk H;clear H;have hcz19__:=eM A1;have hfz19__:=f_ A1;go_wp2_with (first|((with_reducible refine aD (f:=69) rfl ?_);refine aT (some 13) rfl rfl Try.func69 (by kernel_rfl) rfl #[.int .i64 A2,.int .i64 1,.int .i64 8] rfl ml ?_;(with_reducible refine (bD.calls A2 1 8 true _ A8.out).mono ?_);rintro e w' ⟨rfl,⟨nd,rfl⟩⟩;refine ⟨_,rfl,?_⟩)|(go_at_call 69;(try simp only [aJ,aK]);(with_reducible refine (bD.calls a1 1 8 true _ A10.out).mono ?_);rintro e w' ⟨rfl,⟨nd,rfl⟩⟩)|(go_at_call 69;(try simp only [aJ,aK]);(with_reducible refine (bD.calls a2 0 255 false _ A12.out).mono ?_);rintro e w' ⟨rfl,⟨nd,rfl⟩⟩));go_meet
     case rel=>exact ⟨_,(true),(by first|rfl|(simp;done)|(simp [*];done)),H',⟨by first|omega|exact Nat.le_refl _⟩,⟨dr A1⟩,⟨by exact tb HB⟩⟩
   ·replace c11:=Bool.eq_false_iff.mpr c11;subst c11
    have H1:(cG.j0 k a1 a2 a3 a4 true A0 A2 A3 A4 A5 A6)=some r:=by rw [if_neg (show ¬ (false=true) by decide)] at H;exact H
    clear H;have H:=H1;clear H1;have H':=aA.mk H;clear H;have hcz20__:=eM A1;have hfz20__:=f_ A1;go_wp2_with (first|((with_reducible refine aD (f:=69) rfl ?_);refine aT (some 13) rfl rfl Try.func69 (by kernel_rfl) rfl #[.int .i64 A2,.int .i64 1,.int .i64 8] rfl ml ?_;(with_reducible refine (bD.calls A2 1 8 true _ A8.out).mono ?_);rintro e w' ⟨rfl,⟨nd,rfl⟩⟩;refine ⟨_,rfl,?_⟩)|(go_at_call 69;(try simp only [aJ,aK]);(with_reducible refine (bD.calls a1 1 8 false _ A10.out).mono ?_);rintro e w' ⟨rfl,⟨nd,rfl⟩⟩));go_meet
    case rel=>exact ⟨_,(true),(by first|rfl|(simp;done)|(simp [*];done)),H',⟨by first|omega|exact Nat.le_refl _⟩,⟨dr A1⟩,⟨by exact tb HB⟩⟩
  ·replace c9:=Bool.eq_false_iff.mpr c9;subst c9
   have H1:(cG.j0 k a1 a2 a3 a4 true A0 A2 A3 A4 A5 A6)=some r:=by rw [if_neg (show ¬ (false=true) by decide)] at H;exact H
   clear H;have H:=H1;clear H1;have H':=aA.mk H;clear H;have hcz21__:=eM A1;have hfz21__:=f_ A1;go_wp2_with (first|((with_reducible refine aD (f:=69) rfl ?_);refine aT (some 13) rfl rfl Try.func69 (by kernel_rfl) rfl #[.int .i64 A2,.int .i64 1,.int .i64 8] rfl ml ?_;(with_reducible refine (bD.calls A2 1 8 false _ A8.out).mono ?_);rintro e w' ⟨rfl,⟨nd,rfl⟩⟩;refine ⟨_,rfl,?_⟩));go_meet
   case rel=>exact ⟨_,(true),(by first|rfl|(simp;done)|(simp [*];done)),H',⟨by first|omega|exact Nat.le_refl _⟩,⟨dr A1⟩,⟨by exact tb HB⟩⟩
 case rest =>
  clear HC6;obtain ⟨kq,Ac,rfl,HA,HJ5,A1,HB⟩:=hcut
  cases kq with
  | zero=>exact absurd HA.out (by simp [cG.j0])
  | succ kj5 =>
   have H:=HA.out;clear HA;simp only [cG.j0] at H
   by_cases c22:Ac=true
   ·subst c22
    have H1:(some 0)=some r:=by rw [if_pos rfl] at H;exact H
    clear H;have H:=H1;clear H1;obtain rfl:=os H;go_wp2;go_ret;exact ⟨er,tb HB⟩
   ·replace c22:=Bool.eq_false_iff.mpr c22;subst c22
    have H1:(if A0=0 then (some A3) else (if A0=2 then ((iJ.f kj5 A2 a2).bind fun Ad=>(some Ad)) else (if A0=3 then (some (Go.bits .and .i64 a2 a3)) else (if A0=4 then (some (Go.bits .or .i64 a2 a3)) else (if A0=5 then (some (Go.bits .xor .i64 a2 a3)) else (if A0=6 then ((jC.f kj5 A2 a2 a3).bind fun Ae=>(some Ae)) else (if A0=7 then ((jB.f kj5 A2 a2 a3).bind fun Af=>(some Af)) else (if A0=8 then ((jF.f kj5 A2 a2 a3).bind fun Ag=>(some Ag)) else (if A0=9 then ((jK.f kj5 A2 a2 a3).bind fun Ah=>(some Ah)) else (if A0=10 then ((jJ.f kj5 A2 a2 a3).bind fun Ai=>(some Ai)) else (if A0=11 then ((eA.f kj5 A2 a2 a3).bind fun Aj=>(some Aj)) else (if A0=12 then ((jA.f kj5 A2 a2 a3).bind fun Ak=>(some Ak)) else (if A0=13 then ((cQ.f (a2 == a3)).bind fun Al=>(some Al)) else (if A0=14 then ((iL.f kj5 a1 a2 a3).bind fun Am=>(some Am)) else (if A0=15 then ((fL.f kj5 a1 a2 a3).bind fun An=>(some An)) else (if A0=16 then (if A2 < a1 then (some a3) else ((aH.f kj5 (wrap64 (A2 - a1))).bind fun Ao=>(some (wrap64 ((wrap64 (a2 * Ao)) + a3))))) else (if A0=17 then ((cY.f kj5 a1 a2 A3 A2).bind fun Ap=>(some Ap)) else (if A0=18 then (if a2=1 then (some a3) else (some a4)) else (some 0)))))))))))))))))))=some r:=by rw [if_neg (show ¬ (false=true) by decide)] at H;exact H
    clear H;have H:=H1;clear H1
    by_cases c23:A0=0
    ·rw [if_pos c23] at H;have c23b0:(A0 == 0)=true:=beq_iff_eq.mpr c23;have c23b1:(A0 != 0)=false:=bne_eq_false_iff_eq.mpr c23;clear c23;obtain rfl:=os H;have hcz24__:=eM A1;have hfz24__:=f_ A1;go_wp2;go_ret;exact ⟨er,tb HB⟩
    ·rw [if_neg c23] at H;have c23b0:(A0 == 0)=false:=beq_eq_false_iff_ne.mpr c23;have c23b1:(A0 != 0)=true:=bne_iff_ne.mpr c23
     by_cases c25:A0=2
     ·rw [if_pos c25] at H;have c25b0:(A0 == 2)=true:=beq_iff_eq.mpr c25;have c25b1:(A0 != 2)=false:=bne_eq_false_iff_eq.mpr c25;clear c25;replace H:=ob H;obtain ⟨Ad,A260,H⟩:=H;replace H:(some Ad)=some r:=H;have A26:=aA.mk A260;clear A260;obtain rfl:=os H;have hcz27__:=eM A1;have hfz27__:=f_ A1;go_wp2_with (first|((with_reducible refine aD (f:=152) rfl ?_);refine aT (some 46) rfl rfl Try.func152 (by kernel_rfl) rfl #[.int .i64 A2,.int .i64 a2] rfl ml ?_;(with_reducible refine (iJ.calls kj5 A2 a2 Ad _ A26.out).mono ?_);rintro e w' ⟨rfl,⟨nd,rfl⟩⟩;refine ⟨_,rfl,?_⟩));go_ret;exact ⟨er,tb HB⟩
     ·rw [if_neg c25] at H;have c25b0:(A0 == 2)=false:=beq_eq_false_iff_ne.mpr c25;have c25b1:(A0 != 2)=true:=bne_iff_ne.mpr c25
      by_cases c28:A0=3
      ·rw [if_pos c28] at H;have c28b0:(A0 == 3)=true:=beq_iff_eq.mpr c28;have c28b1:(A0 != 3)=false:=bne_eq_false_iff_eq.mpr c28;clear c28;obtain rfl:=os H;have hcz29__:=eM A1;have hfz29__:=f_ A1;go_wp2;go_ret;exact ⟨er,tb HB⟩
      ·rw [if_neg c28] at H;have c28b0:(A0 == 3)=false:=beq_eq_false_iff_ne.mpr c28;have c28b1:(A0 != 3)=true:=bne_iff_ne.mpr c28
       by_cases c30:A0=4
       ·rw [if_pos c30] at H;have c30b0:(A0 == 4)=true:=beq_iff_eq.mpr c30;have c30b1:(A0 != 4)=false:=bne_eq_false_iff_eq.mpr c30;clear c30;obtain rfl:=os H;have hcz31__:=eM A1;have hfz31__:=f_ A1;go_wp2;go_ret;exact ⟨er,tb HB⟩
       ·rw [if_neg c30] at H;have c30b0:(A0 == 4)=false:=beq_eq_false_iff_ne.mpr c30;have c30b1:(A0 != 4)=true:=bne_iff_ne.mpr c30
        by_cases c32:A0=5
        ·rw [if_pos c32] at H;have c32b0:(A0 == 5)=true:=beq_iff_eq.mpr c32;have c32b1:(A0 != 5)=false:=bne_eq_false_iff_eq.mpr c32;clear c32;obtain rfl:=os H;have hcz33__:=eM A1;have hfz33__:=f_ A1;go_wp2;go_ret;exact ⟨er,tb HB⟩
        ·rw [if_neg c32] at H;have c32b0:(A0 == 5)=false:=beq_eq_false_iff_ne.mpr c32;have c32b1:(A0 != 5)=true:=bne_iff_ne.mpr c32
         by_cases c34:A0=6
         ·rw [if_pos c34] at H;have c34b0:(A0 == 6)=true:=beq_iff_eq.mpr c34;have c34b1:(A0 != 6)=false:=bne_eq_false_iff_eq.mpr c34;clear c34;replace H:=ob H;obtain ⟨Ae,A350,H⟩:=H;replace H:(some Ae)=some r:=H;have A35:=aA.mk A350;clear A350;obtain rfl:=os H;have hcz36__:=eM A1;have hfz36__:=f_ A1;go_wp2_with (first|((with_reducible refine aD (f:=153) rfl ?_);refine aT (some 68) rfl rfl Try.func153 (by kernel_rfl) rfl #[.int .i64 A2,.int .i64 a2,.int .i64 a3] rfl ml ?_;(with_reducible refine (jC.calls kj5 A2 a2 a3 Ae _ A35.out).mono ?_);rintro e w' ⟨rfl,⟨nd,rfl⟩⟩;refine ⟨_,rfl,?_⟩));go_ret;exact ⟨er,tb HB⟩
         ·rw [if_neg c34] at H;have c34b0:(A0 == 6)=false:=beq_eq_false_iff_ne.mpr c34;have c34b1:(A0 != 6)=true:=bne_iff_ne.mpr c34
          by_cases c37:A0=7
          ·rw [if_pos c37] at H;have c37b0:(A0 == 7)=true:=beq_iff_eq.mpr c37;have c37b1:(A0 != 7)=false:=bne_eq_false_iff_eq.mpr c37;clear c37;replace H:=ob H;obtain ⟨Af,A380,H⟩:=H;replace H:(some Af)=some r:=H;have A38:=aA.mk A380;clear A380;obtain rfl:=os H;have hcz39__:=eM A1;have hfz39__:=f_ A1;go_wp2_with (first|((with_reducible refine aD (f:=154) rfl ?_);refine aT (some 75) rfl rfl Try.func154 (by kernel_rfl) rfl #[.int .i64 A2,.int .i64 a2,.int .i64 a3] rfl ml ?_;(with_reducible refine (jB.calls kj5 A2 a2 a3 Af _ A38.out).mono ?_);rintro e w' ⟨rfl,⟨nd,rfl⟩⟩;refine ⟨_,rfl,?_⟩));go_ret;exact ⟨er,tb HB⟩
          ·rw [if_neg c37] at H;have c37b0:(A0 == 7)=false:=beq_eq_false_iff_ne.mpr c37;have c37b1:(A0 != 7)=true:=bne_iff_ne.mpr c37
           by_cases c40:A0=8
           ·rw [if_pos c40] at H;have c40b0:(A0 == 8)=true:=beq_iff_eq.mpr c40;have c40b1:(A0 != 8)=false:=bne_eq_false_iff_eq.mpr c40;clear c40;replace H:=ob H;obtain ⟨Ag,A410,H⟩:=H;replace H:(some Ag)=some r:=H;have A41:=aA.mk A410;clear A410;obtain rfl:=os H;have hcz42__:=eM A1;have hfz42__:=f_ A1;go_wp2_with (first|((with_reducible refine aD (f:=155) rfl ?_);refine aT (some 82) rfl rfl Try.func155 (by kernel_rfl) rfl #[.int .i64 A2,.int .i64 a2,.int .i64 a3] rfl ml ?_;(with_reducible refine (jF.calls kj5 A2 a2 a3 Ag _ A41.out).mono ?_);rintro e w' ⟨rfl,⟨nd,rfl⟩⟩;refine ⟨_,rfl,?_⟩));go_ret;exact ⟨er,tb HB⟩
           ·rw [if_neg c40] at H;have c40b0:(A0 == 8)=false:=beq_eq_false_iff_ne.mpr c40;have c40b1:(A0 != 8)=true:=bne_iff_ne.mpr c40
            by_cases c43:A0=9
            ·rw [if_pos c43] at H;have c43b0:(A0 == 9)=true:=beq_iff_eq.mpr c43;have c43b1:(A0 != 9)=false:=bne_eq_false_iff_eq.mpr c43;clear c43;replace H:=ob H;obtain ⟨Ah,A440,H⟩:=H;replace H:(some Ah)=some r:=H;have A44:=aA.mk A440;clear A440;obtain rfl:=os H;have hcz45__:=eM A1;have hfz45__:=f_ A1;go_wp2_with (first|((with_reducible refine aD (f:=156) rfl ?_);refine aT (some 89) rfl rfl Try.func156 (by kernel_rfl) rfl #[.int .i64 A2,.int .i64 a2,.int .i64 a3] rfl ml ?_;(with_reducible refine (jK.calls kj5 A2 a2 a3 Ah _ A44.out).mono ?_);rintro e w' ⟨rfl,⟨nd,rfl⟩⟩;refine ⟨_,rfl,?_⟩));go_ret;exact ⟨er,tb HB⟩
            ·rw [if_neg c43] at H;have c43b0:(A0 == 9)=false:=beq_eq_false_iff_ne.mpr c43;have c43b1:(A0 != 9)=true:=bne_iff_ne.mpr c43
             by_cases c46:A0=10
             ·rw [if_pos c46] at H;have c46b0:(A0 == 10)=true:=beq_iff_eq.mpr c46;have c46b1:(A0 != 10)=false:=bne_eq_false_iff_eq.mpr c46;clear c46;replace H:=ob H;obtain ⟨Ai,A470,H⟩:=H;replace H:(some Ai)=some r:=H;have A47:=aA.mk A470;clear A470;obtain rfl:=os H;have hcz48__:=eM A1;have hfz48__:=f_ A1;go_wp2_with (first|((with_reducible refine aD (f:=157) rfl ?_);refine aT (some 96) rfl rfl Try.func157 (by kernel_rfl) rfl #[.int .i64 A2,.int .i64 a2,.int .i64 a3] rfl ml ?_;(with_reducible refine (jJ.calls kj5 A2 a2 a3 Ai _ A47.out).mono ?_);rintro e w' ⟨rfl,⟨nd,rfl⟩⟩;refine ⟨_,rfl,?_⟩));go_ret;exact ⟨er,tb HB⟩
             ·rw [if_neg c46] at H;have c46b0:(A0 == 10)=false:=beq_eq_false_iff_ne.mpr c46;have c46b1:(A0 != 10)=true:=bne_iff_ne.mpr c46
              by_cases c49:A0=11
              ·rw [if_pos c49] at H;have c49b0:(A0 == 11)=true:=beq_iff_eq.mpr c49;have c49b1:(A0 != 11)=false:=bne_eq_false_iff_eq.mpr c49;clear c49;replace H:=ob H;obtain ⟨Aj,A500,H⟩:=H;replace H:(some Aj)=some r:=H;have A50:=aA.mk A500;clear A500;obtain rfl:=os H;have hcz51__:=eM A1;have hfz51__:=f_ A1;go_wp2_with (first|((with_reducible refine aD (f:=158) rfl ?_);refine aT (some 103) rfl rfl Try.func158 (by kernel_rfl) rfl #[.int .i64 A2,.int .i64 a2,.int .i64 a3] rfl ml ?_;(with_reducible refine (eA.calls kj5 A2 a2 a3 Aj _ A50.out).mono ?_);rintro e w' ⟨rfl,⟨nd,rfl⟩⟩;refine ⟨_,rfl,?_⟩));go_ret;exact ⟨er,tb HB⟩
              ·rw [if_neg c49] at H;have c49b0:(A0 == 11)=false:=beq_eq_false_iff_ne.mpr c49;have c49b1:(A0 != 11)=true:=bne_iff_ne.mpr c49
               by_cases c52:A0=12
               ·rw [if_pos c52] at H;have c52b0:(A0 == 12)=true:=beq_iff_eq.mpr c52;have c52b1:(A0 != 12)=false:=bne_eq_false_iff_eq.mpr c52;clear c52;replace H:=ob H;obtain ⟨Ak,A530,H⟩:=H;replace H:(some Ak)=some r:=H;have A53:=aA.mk A530;clear A530;obtain rfl:=os H;have hcz54__:=eM A1;have hfz54__:=f_ A1;go_wp2_with (first|((with_reducible refine aD (f:=159) rfl ?_);refine aT (some 110) rfl rfl Try.func159 (by kernel_rfl) rfl #[.int .i64 A2,.int .i64 a2,.int .i64 a3] rfl ml ?_;(with_reducible refine (jA.calls kj5 A2 a2 a3 Ak _ A53.out).mono ?_);rintro e w' ⟨rfl,⟨nd,rfl⟩⟩;refine ⟨_,rfl,?_⟩));go_ret;exact ⟨er,tb HB⟩
               ·rw [if_neg c52] at H;have c52b0:(A0 == 12)=false:=beq_eq_false_iff_ne.mpr c52;have c52b1:(A0 != 12)=true:=bne_iff_ne.mpr c52
                by_cases c55:A0=13
                ·rw [if_pos c55] at H;have c55b0:(A0 == 13)=true:=beq_iff_eq.mpr c55;have c55b1:(A0 != 13)=false:=bne_eq_false_iff_eq.mpr c55;clear c55;replace H:=ob H;obtain ⟨Al,A560,H⟩:=H;replace H:(some Al)=some r:=H;have A56:=aA.mk A560;clear A560;obtain rfl:=os H;have hcz57__:=eM A1;have hfz57__:=f_ A1;go_wp2_with (first|((with_reducible refine aD (f:=160) rfl ?_);refine aT (some 116) rfl rfl Try.func160 (by kernel_rfl) rfl #[.bool (a2 == a3)] rfl ml ?_;(with_reducible refine (cQ.calls (a2 == a3) Al _ A56.out).mono ?_);rintro e w' ⟨rfl,⟨nd,rfl⟩⟩;refine ⟨_,rfl,?_⟩));go_ret;exact ⟨er,tb HB⟩
                ·rw [if_neg c55] at H;have c55b0:(A0 == 13)=false:=beq_eq_false_iff_ne.mpr c55;have c55b1:(A0 != 13)=true:=bne_iff_ne.mpr c55
                 by_cases c58:A0=14
                 ·rw [if_pos c58] at H;have c58b0:(A0 == 14)=true:=beq_iff_eq.mpr c58;have c58b1:(A0 != 14)=false:=bne_eq_false_iff_eq.mpr c58;clear c58;replace H:=ob H;obtain ⟨Am,A590,H⟩:=H;replace H:(some Am)=some r:=H;have A59:=aA.mk A590;clear A590;obtain rfl:=os H;have hcz60__:=eM A1;have hfz60__:=f_ A1;go_wp2_with (first|((with_reducible refine aD (f:=161) rfl ?_);refine aT (some 122) rfl rfl Try.func161 (by kernel_rfl) rfl #[.int .i64 a1,.int .i64 a2,.int .i64 a3] rfl ml ?_;(with_reducible refine (iL.calls kj5 a1 a2 a3 Am _ A59.out).mono ?_);rintro e w' ⟨rfl,⟨nd,rfl⟩⟩;refine ⟨_,rfl,?_⟩));go_ret;exact ⟨er,tb HB⟩
                 ·rw [if_neg c58] at H;have c58b0:(A0 == 14)=false:=beq_eq_false_iff_ne.mpr c58;have c58b1:(A0 != 14)=true:=bne_iff_ne.mpr c58
                  by_cases c61:A0=15
                  ·rw [if_pos c61] at H;have c61b0:(A0 == 15)=true:=beq_iff_eq.mpr c61;have c61b1:(A0 != 15)=false:=bne_eq_false_iff_eq.mpr c61;clear c61;replace H:=ob H;obtain ⟨An,A620,H⟩:=H;replace H:(some An)=some r:=H;have A62:=aA.mk A620;clear A620;obtain rfl:=os H;have hcz63__:=eM A1;have hfz63__:=f_ A1;go_wp2_with (first|((with_reducible refine aD (f:=162) rfl ?_);refine aT (some 128) rfl rfl Try.func162 (by kernel_rfl) rfl #[.int .i64 a1,.int .i64 a2,.int .i64 a3] rfl ml ?_;(with_reducible refine (fL.calls kj5 a1 a2 a3 An _ A62.out).mono ?_);rintro e w' ⟨rfl,⟨nd,rfl⟩⟩;refine ⟨_,rfl,?_⟩));go_ret;exact ⟨er,tb HB⟩
                  ·rw [if_neg c61] at H;have c61b0:(A0 == 15)=false:=beq_eq_false_iff_ne.mpr c61;have c61b1:(A0 != 15)=true:=bne_iff_ne.mpr c61
                   by_cases c64:A0=16
                   ·rw [if_pos c64] at H;have c64b0:(A0 == 16)=true:=beq_iff_eq.mpr c64;have c64b1:(A0 != 16)=false:=bne_eq_false_iff_eq.mpr c64;clear c64
                    by_cases c65:A2 < a1
                    ·rw [if_pos c65] at H;have c65b0:decide (A2 < a1)=true:=decide_eq_true c65;clear c65;obtain rfl:=os H;have hcz66__:=eM A1;have hfz66__:=f_ A1;go_wp2;go_ret;exact ⟨er,tb HB⟩
                    ·rw [if_neg c65] at H;have c65b0:decide (A2 < a1)=false:=decide_eq_false c65;clear c65;replace H:=ob H;obtain ⟨Ao,A670,H⟩:=H;replace H:(some (wrap64 ((wrap64 (a2 * Ao)) + a3)))=some r:=H;have A67:=aA.mk A670;clear A670;obtain rfl:=os H;have hcz68__:=eM A1;have hfz68__:=f_ A1;go_wp2_with (first|((with_reducible refine aD (f:=70) rfl ?_);refine aT (some 141) rfl rfl Try.func70 (by kernel_rfl) rfl #[.int .i64 (wrap64 (A2 - a1))] rfl ml ?_;(with_reducible refine (aH.calls kj5 (wrap64 (A2 - a1)) Ao _ A67.out).mono ?_);rintro e w' ⟨rfl,⟨nd,rfl⟩⟩;refine ⟨_,rfl,?_⟩));go_ret;exact ⟨er,tb HB⟩
                   ·rw [if_neg c64] at H;have c64b0:(A0 == 16)=false:=beq_eq_false_iff_ne.mpr c64;have c64b1:(A0 != 16)=true:=bne_iff_ne.mpr c64
                    by_cases c69:A0=17
                    ·rw [if_pos c69] at H;have c69b0:(A0 == 17)=true:=beq_iff_eq.mpr c69;have c69b1:(A0 != 17)=false:=bne_eq_false_iff_eq.mpr c69;clear c69;replace H:=ob H;obtain ⟨Ap,A700,H⟩:=H;replace H:(some Ap)=some r:=H;have A70:=aA.mk A700;clear A700;obtain rfl:=os H;have hcz71__:=eM A1;have hfz71__:=f_ A1;go_wp2_with (first|((with_reducible refine aD (f:=163) rfl ?_);refine aT (some 153) rfl rfl Try.func163 (by kernel_rfl) rfl #[.int .i64 a1,.int .i64 a2,.int .i64 A3,.int .i64 A2] rfl ml ?_;(with_reducible refine (cY.calls kj5 a1 a2 A3 A2 Ap _ A70.out).mono ?_);rintro e w' ⟨rfl,⟨nd,rfl⟩⟩;refine ⟨_,rfl,?_⟩));go_ret;exact ⟨er,tb HB⟩
                    ·rw [if_neg c69] at H;have c69b0:(A0 == 17)=false:=beq_eq_false_iff_ne.mpr c69;have c69b1:(A0 != 17)=true:=bne_iff_ne.mpr c69
                     by_cases c72:A0=18
                     ·rw [if_pos c72] at H;have c72b0:(A0 == 18)=true:=beq_iff_eq.mpr c72;have c72b1:(A0 != 18)=false:=bne_eq_false_iff_eq.mpr c72;clear c72
                      by_cases c73:a2=1
                      ·rw [if_pos c73] at H;have c73b0:(a2 == 1)=true:=beq_iff_eq.mpr c73;have c73b1:(a2 != 1)=false:=bne_eq_false_iff_eq.mpr c73;clear c73;obtain rfl:=os H;have hcz74__:=eM A1;have hfz74__:=f_ A1;go_wp2;go_ret;exact ⟨er,tb HB⟩
                      ·rw [if_neg c73] at H;have c73b0:(a2 == 1)=false:=beq_eq_false_iff_ne.mpr c73;have c73b1:(a2 != 1)=true:=bne_iff_ne.mpr c73;obtain rfl:=os H;have hcz75__:=eM A1;have hfz75__:=f_ A1;go_wp2;go_ret;exact ⟨er,tb HB⟩
                     ·rw [if_neg c72] at H;have c72b0:(A0 == 18)=false:=beq_eq_false_iff_ne.mpr c72;have c72b1:(A0 != 18)=true:=bne_iff_ne.mpr c72;obtain rfl:=os H;have hcz76__:=eM A1;have hfz76__:=f_ A1;go_wp2;go_ret;exact ⟨er,tb HB⟩
end Go.Proofs.Ythipjoioicmcnaa.G
