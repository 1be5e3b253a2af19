-- texts of this session, merged by a program of it (wip/gen/pack.py)
import Derived.Test.YthipjoioicmcnaaKFnTable2
import Derived.Test.YthipjoioicmcnaaKFnTable3
import Derived.Test.YthipjoioicmcnaaKFnTable1
set_option linter.unusedVariables false
set_option linter.unusedSimpArgs false
set_option maxHeartbeats 80000000
set_option maxRecDepth 100000
namespace Go.Proofs.Ythipjoioicmcnaa.G
open Go.RowKit Go.Proofs.YthipjoioicmcnaaW.PrintWords Go.Proofs.YthipjoioicmcnaaW.PrintLast Go.Proofs.YthipjoioicmcnaaW.PrintMore Go.Proofs.Ythipjoioicmcnaa.Sh
attribute [local go_sem] eS eR fI fJ eI eJ eU eT
def qG:Nat→List bN→List Int→Int→Int→Int→Int→Option (Option (Int × Int × Int))
 | 0,_,_,_,_,_,_=>none
 | k + 1,ahead,ps,i,x0,x1,x2=>if i < (ps.length:Int) then (if 0≤i then (aY.f (rd ps i) 0 (wrap64 ((ahead.length:Int) - 1))).bind fun t=>if t=true then
   (if 0≤rd ps i∧rd ps i < (ahead.length:Int) then (if i=0 then qG k ahead ps (wrap64 (i + 1)) (aC ahead (rd ps i)).f1 x1 x2 else if i=1 then qG k ahead ps (wrap64 (i + 1)) x0 (aC ahead (rd ps i)).f1 x2 else if i=2 then qG k ahead ps (wrap64 (i + 1)) x0 x1 (aC ahead (rd ps i)).f1 else none) else none)
   else some none else none) else some (some (x0,x1,x2))
def rgS (o w k b x0 x1 x2:Int):Option Bool :=
 if o=0 then cR.f w k else if o=1 then eF.f k else if o=2 then some (x0 == w) else
 (aY.f o 3 12).bind fun t=>if t=true then some (if x0=w then x1 == w else false) else
 (aY.f o 13 15).bind fun t=>if t=true then some (if x0=x1 then w == 1 else false) else
 if o=16 then some (wrap64 (x0 + x1) == w) else if o=17 then aY.f k 0 (wrap64 (x0 - w)) else
 if o=18 then some (if x0=1 then (if x1=w then x2 == w else false) else false) else
 (eF.f k).bind fun t=>if t=true then (bU.f b).bind fun t=>if t=true then some (if x0=1 then w == 1 else false) else some false else some false
def eZ.f (k:Nat) (l0:List bN) (a1_0 a1_1 a1_2 a1_3 a1_4 a1_5:Int):Option Bool :=
 (bU.f a1_1).bind fun t=>if t=true then (aY.f a1_0 0 20).bind fun t=>if t=true then (bX.f k a1_0 a1_1 a1_2 a1_3 a1_4 a1_5).bind fun t=>if t=true then
  (dB.f k a1_0 a1_1 a1_2 a1_3 a1_4 a1_5).bind fun ps=>(qG k l0 ps 0 0 0 0).bind fun ws=>match ws with
   | none=>some false
   | some (x0,x1,x2)=>rgS a1_0 a1_1 a1_2 a1_4 x0 x1 x2
  else some false else some false else some false
theorem eZ.calls (k:Nat) (A0:Option Addr) (c0:Nat) (l0:List (bN)) (o ww kk a b c:Int) (r:Bool) (w:World) (hr0:Kd.C eV w A0 l0.length l0) (hc0:l0.length≤c0) (h:eZ.f k l0 o ww kk a b c=some r) :
  Calls Try.prog 136 #[.slice A0 l0.length c0,.agg #[.int .i64 o,.int .i64 ww,.int .i64 kk,.int .i64 a,.int .i64 b,.int .i64 c]] w fun e w'=>e = .returned (.bool r)∧Below w.heap.size w w':=by
 have HR0:=aA.mk hr0;have HC0:=aA.mk hc0;clear hr0 hc0;unfold eZ.f at h;obtain ⟨t,hw,h⟩:=Option.bind_eq_some_iff.1 h;have HW:=aA.mk hw;clear hw
 cases t with
 | false =>
  rw [if_neg (by decide)] at h;obtain rfl:=Option.some.inj h;clear h
  go_enter Try.func136,Try.ntmps136
  go_wp2_with (first|((with_reducible refine bM (N:=3) rfl ?_);refine bx (N:=3) (cs:=#[.int .i64 o,.int .i64 ww,.int .i64 kk,.int .i64 a,.int .i64 b,.int .i64 c]) (t:=99) ?_;intro gn hg w1 hbox hb;have BNa:=aA.mk hbox;have HXa:=aA.mk hb;have GN:=aA.mk (show w.heap.size≤gn by rw [hg];exact Nat.le_refl _);obtain ⟨hcn0,hcn1,hcn2,hcn3,hcn4,hcn5⟩:=eM BNa;clear hg hbox hb)|(go_at_call 119;(try simp only [aJ,aK]);(with_reducible refine (bU.calls ww false _ HW.out).mono ?_);rintro e w' ⟨rfl,⟨nd,rfl⟩⟩));go_ret;exact ⟨rfl,aV HXa.out _⟩
 | true =>
 rw [if_pos rfl] at h;obtain ⟨t,ho,h⟩:=Option.bind_eq_some_iff.1 h;have HO:=aA.mk ho;clear ho
 cases t with
 | false =>
  rw [if_neg (by decide)] at h;obtain rfl:=Option.some.inj h;clear h
  go_enter Try.func136,Try.ntmps136
  go_wp2_with (first|((with_reducible refine bM (N:=3) rfl ?_);refine bx (N:=3) (cs:=#[.int .i64 o,.int .i64 ww,.int .i64 kk,.int .i64 a,.int .i64 b,.int .i64 c]) (t:=99) ?_;intro gn hg w1 hbox hb;have BNa:=aA.mk hbox;have HXa:=aA.mk hb;have GN:=aA.mk (show w.heap.size≤gn by rw [hg];exact Nat.le_refl _);obtain ⟨hcn0,hcn1,hcn2,hcn3,hcn4,hcn5⟩:=eM BNa;clear hg hbox hb)|(go_at_call 119;(try simp only [aJ,aK]);(with_reducible refine (bU.calls ww true _ HW.out).mono ?_);rintro e w' ⟨rfl,⟨nd,rfl⟩⟩)|(go_at_call 61;(try simp only [aJ,aK]);(with_reducible refine (aY.calls o 0 20 false _ HO.out).mono ?_);rintro e w' ⟨rfl,⟨nd,rfl⟩⟩));go_ret;exact ⟨rfl,aV HXa.out _⟩
 | true =>
 rw [if_pos rfl] at h;obtain ⟨t,hu,h⟩:=Option.bind_eq_some_iff.1 h;have HU:=aA.mk hu;clear hu
 cases t with
 | false =>
  rw [if_neg (by decide)] at h;obtain rfl:=Option.some.inj h;clear h
  go_enter Try.func136,Try.ntmps136
  go_wp2_with (first|((with_reducible refine bM (N:=3) rfl ?_);refine bx (N:=3) (cs:=#[.int .i64 o,.int .i64 ww,.int .i64 kk,.int .i64 a,.int .i64 b,.int .i64 c]) (t:=99) ?_;intro gn hg w1 hbox hb;have BNa:=aA.mk hbox;have HXa:=aA.mk hb;have GN:=aA.mk (show w.heap.size≤gn by rw [hg];exact Nat.le_refl _);obtain ⟨hcn0,hcn1,hcn2,hcn3,hcn4,hcn5⟩:=eM BNa;clear hg hbox hb)|(go_at_call 119;(try simp only [aJ,aK]);(with_reducible refine (bU.calls ww true _ HW.out).mono ?_);rintro e w' ⟨rfl,⟨nd,rfl⟩⟩)|(go_at_call 61;(try simp only [aJ,aK]);(with_reducible refine (aY.calls o 0 20 true _ HO.out).mono ?_);rintro e w' ⟨rfl,⟨nd,rfl⟩⟩)|((with_reducible refine aD (f:=164) rfl ?_);(try (refine cV (by rfl) ?_;dsimp only));refine aT (some 20) rfl rfl Try.func164 (by kernel_rfl) rfl #[.agg #[.int .i64 o,.int .i64 ww,.int .i64 kk,.int .i64 a,.int .i64 b,.int .i64 c]] rfl ml ?_;(with_reducible refine (bX.calls k o ww kk a b c false _ HU.out).mono ?_);rintro e w2 ⟨rfl,hb⟩;refine ⟨_,rfl,?_⟩;have hb1:=aE (aV (Below.refl w1.heap.size w1) _) hb;have HXb:=aA.mk (aE HXa.out hb1);have BNb:=aA.mk (aQ BNa.out hb1);clear hb hb1 BNa HXa;clear hcn0 hcn1 hcn2 hcn3 hcn4 hcn5;obtain ⟨hcn0,hcn1,hcn2,hcn3,hcn4,hcn5⟩:=eM BNb));go_ret;exact ⟨rfl,HXb.out⟩
 | true =>
 rw [if_pos rfl] at h;obtain ⟨ps,hp,h⟩:=Option.bind_eq_some_iff.1 h;obtain ⟨ws,hl,h⟩:=Option.bind_eq_some_iff.1 h;have HP:=aA.mk hp;have HLW:=aA.mk hl;have HF:=aA.mk h;clear hp hl h
 go_enter Try.func136,Try.ntmps136
 go_wp2_with (first|((with_reducible refine bM (N:=3) rfl ?_);refine bx (N:=3) (cs:=#[.int .i64 o,.int .i64 ww,.int .i64 kk,.int .i64 a,.int .i64 b,.int .i64 c]) (t:=99) ?_;intro gn hg w1 hbox hb;have BNa:=aA.mk hbox;have HXa:=aA.mk hb;have GN:=aA.mk (show w.heap.size≤gn by rw [hg];exact Nat.le_refl _);obtain ⟨hcn0,hcn1,hcn2,hcn3,hcn4,hcn5⟩:=eM BNa;clear hg hbox hb)|(go_at_call 119;(try simp only [aJ,aK]);(with_reducible refine (bU.calls ww true _ HW.out).mono ?_);rintro e w' ⟨rfl,⟨nd,rfl⟩⟩)|(go_at_call 61;(try simp only [aJ,aK]);(with_reducible refine (aY.calls o 0 20 true _ HO.out).mono ?_);rintro e w' ⟨rfl,⟨nd,rfl⟩⟩)|((with_reducible refine aD (f:=164) rfl ?_);(try (refine cV (by rfl) ?_;dsimp only));refine aT (some 20) rfl rfl Try.func164 (by kernel_rfl) rfl #[.agg #[.int .i64 o,.int .i64 ww,.int .i64 kk,.int .i64 a,.int .i64 b,.int .i64 c]] rfl ml ?_;(with_reducible refine (bX.calls k o ww kk a b c true _ HU.out).mono ?_);rintro e w2 ⟨rfl,hb⟩;refine ⟨_,rfl,?_⟩;have hb1:=aE (aV (Below.refl w1.heap.size w1) _) hb;have HXb:=aA.mk (aE HXa.out hb1);have BNb:=aA.mk (aQ BNa.out hb1);clear hb hb1 BNa HXa;clear hcn0 hcn1 hcn2 hcn3 hcn4 hcn5;obtain ⟨hcn0,hcn1,hcn2,hcn3,hcn4,hcn5⟩:=eM BNb)|((with_reducible refine bM (N:=5) rfl ?_);refine bx (N:=5) (cs:=#[.int .i64 0,.int .i64 0,.int .i64 0]) (t:=132) ?_;intro ga hg w2b hbox hb;have BAa:=aA.mk hbox;have BNc:=aA.mk (aQ BNb.out hb);have HXc:=aA.mk (aE HXb.out hb);have GA:=aA.mk (show w.heap.size≤ga by rw [hg];exact HXb.out.size);have NE:=aA.mk (show gn≠ga by rw [hg];exact Nat.ne_of_lt (gA BNb.out));clear BNb HXb;clear hcn0 hcn1 hcn2 hcn3 hcn4 hcn5;have hn1_:=NE.out;have hn2_:ga≠gn:=fun e_=>NE.out e_.symm;obtain ⟨hcn0,hcn1,hcn2,hcn3,hcn4,hcn5⟩:=eM BNc;obtain ⟨hcw0,hcw1,hcw2⟩:=xN BAa;have hfw0:=aW BAa.out 0;have hfw1:=aW BAa.out 1;have hfw2:=aW BAa.out 2;clear hg hbox hb)|((with_reducible refine aD (f:=125) rfl ?_);(try (refine cV (by rfl) ?_;dsimp only));refine aT (some 25) rfl rfl Try.func125 (by kernel_rfl) rfl #[.agg #[.int .i64 o,.int .i64 ww,.int .i64 kk,.int .i64 a,.int .i64 b,.int .i64 c]] rfl ml ?_;(with_reducible refine (dB.calls k o ww kk a b c ps _ HP.out).mono ?_);rintro e w3 ⟨v_,rfl,ho,hb⟩;refine ⟨_,rfl,?_⟩;have BA5:(((w2b.setCell ⟨ga,0,none⟩ (.int .i64 0)).setCell ⟨ga,1,none⟩ (.int .i64 0)).setCell ⟨ga,2,none⟩ (.int .i64 0)).heap[ga]? = some (.cells #[.int .i64 0,.int .i64 0,.int .i64 0] 132 (0,0)):=bF (cs:=#[.int .i64 0,.int .i64 0,.int .i64 0]) (bF (cs:=#[.int .i64 0,.int .i64 0,.int .i64 0]) (bF (cs:=#[.int .i64 0,.int .i64 0,.int .i64 0]) BAa.out 0 _ rfl) 1 _ rfl) 2 _ rfl;have BN5:=dR (dR (dR BNc.out (p:=⟨ga,0,none⟩) NE.out (.int .i64 0)) (p:=⟨ga,1,none⟩) NE.out (.int .i64 0)) (p:=⟨ga,2,none⟩) NE.out (.int .i64 0);have HX5:Below w.heap.size w (((w2b.setCell ⟨ga,0,none⟩ (.int .i64 0)).setCell ⟨ga,1,none⟩ (.int .i64 0)).setCell ⟨ga,2,none⟩ (.int .i64 0)):=aZ (aZ (aZ HXc.out GA.out) GA.out) GA.out;have BA:=aA.mk (aQ BA5 hb);have BNd:=aA.mk (aQ BN5 hb);have HXd:=aA.mk (aE HX5 hb);have HR:=aA.mk (Kd.R_lower ho HX5.size);clear ho hb BNc HXc BAa BA5 BN5 HX5 hn1_ hn2_;clear hcn0 hcn1 hcn2 hcn3 hcn4 hcn5;clear hcw0 hcw1 hcw2 hfw0 hfw1 hfw2;obtain ⟨Ap,cp,ep⟩:=Kd.R_slice HR.out;subst ep));have HRP:=aA.mk (Kd.R_reads' HR.out)
 go_loopg [27] k (fun kq v27 wr=>∃ (i x0 x1 x2:Int),v27 = .int .i64 i∧aA (qG kq l0 ps i x0 x1 x2=some ws)∧aA (kq≤k)∧aA (wr.heap[gn]? = some (.cells #[.int .i64 o,.int .i64 ww,.int .i64 kk,.int .i64 a,.int .i64 b,.int .i64 c] 99 (0,0)))∧aA (wr.heap[ga]? = some (.cells #[.int .i64 x0,.int .i64 x1,.int .i64 x2] 132 (0,0)))∧aA (Kd.R (Kd.int .i64) 3 wr w.heap.size (fun _=>True) (.slice Ap ps.length cp) ps)∧aA (Below w.heap.size w wr))
 case atStart=>exact ⟨0,0,0,0,rfl,HLW,⟨Nat.le_refl _⟩,BNd,BA,HR,HXd⟩
 case round =>
  clear HLW BNd BA HR HXd;obtain ⟨i,x0,x1,x2,rfl,HA,HK1,BN,BA,HR,HB⟩:=hrel
  cases gk with
  | zero=>exact absurd HA.out (by simp [qG])
  | succ k1 =>
   have H:=HA.out;clear HA;simp only [qG] at H
   by_cases c3:i < (ps.length:Int)
   ·rw [if_pos c3] at H
    by_cases c4:0≤i
    case neg=>rw [if_neg c4] at H;cases H
    rw [if_pos c4] at H;obtain ⟨t,ht,H⟩:=Option.bind_eq_some_iff.1 H;have HT:=aA.mk ht;clear ht;have d3:decide (i < (ps.length:Int))=true:=decide_eq_true c3;have C3:=aA.mk c3;have d4:decide (0≤i)=true:=decide_eq_true c4;obtain ⟨ad,e_,hxp⟩:=Kd.at_int (Kd.R_reads' HR.out).2.2 i c4 c3;cases e_
    cases t with
    | false =>
     rw [if_neg (by decide)] at H;obtain rfl:=os H;obtain rfl:false=r:=Option.some.inj HF.out;clear H;replace c3:=eq_true c3;replace c4:=eq_true c4;go_wp2_with (first|(go_at_call 61;(try simp only [aJ,aK]);(with_reducible refine (aY.calls (rd ps i) 0 (wrap64 ((l0.length:Int) - 1)) false _ HT.out).mono ?_);rintro e w' ⟨rfl,⟨nd,rfl⟩⟩));go_ret;exact ⟨rfl,by repeat (first|exact HB.out|apply aV)⟩
    | true =>
     rw [if_pos rfl] at H
     by_cases c5:0≤rd ps i∧rd ps i < (l0.length:Int)
     case neg=>rw [if_neg c5] at H;cases H
     rw [if_pos c5] at H;obtain ⟨ad2,e_,hx0,hx1,_⟩:=dD HR0.out (rd ps i) c5.1 c5.2;cases e_;replace hx1:=ct HB hx1;clear hx0;replace c3:=eq_true c3;replace c4:=eq_true c4;obtain ⟨c5,c6⟩:=c5;replace c5:=eq_true c5;replace c6:=eq_true c6;have NE1:=NE.out
     have NE2:ga≠gn:=fun e=>NE.out e.symm
     obtain ⟨hcw0,hcw1,hcw2⟩:=xN BA;have hfw0:=aW BA.out 0;have hfw1:=aW BA.out 1;have hfw2:=aW BA.out 2
     by_cases z0:i=0
     ·subst z0;rw [if_pos rfl] at H;rw [show wrap64 ((0:Int) + 1)=1 from by unfold wrap64;omega] at H;have d3n:decide (0 < ps.length)=true:=decide_eq_true (by have:=C3.out;omega);have q3n:(0 < ps.length)=True:=eq_true (by have:=C3.out;omega);have H':=aA.mk H;rw [show ((0:Int)).toNat=0 from rfl,Addr.add_zero'] at hxp;clear H;go_wp2_with (first|(go_at_call 61;(try simp only [aJ,aK]);(with_reducible refine (aY.calls (rd ps 0) 0 (wrap64 ((l0.length:Int) - 1)) true _ HT.out).mono ?_);rintro e w' ⟨rfl,⟨nd,rfl⟩⟩));go_roundg k1
      case measure=>have:=HK1.out;omega
      case rel=>exact ⟨1,(aC l0 (rd ps 0)).f1,x1,x2,(by first|rfl|(simp;done)),H',⟨by have:=HK1.out;omega⟩,⟨dR (bH BN.out _) NE1 _⟩,⟨bF (cs:=#[.int .i64 x0,.int .i64 x1,.int .i64 x2]) (bH BA.out _) 0 _ rfl⟩,⟨Kd.R_set (Kd.R_drewN HR.out _) (bH BA.out _) (by decide) 0 _⟩,⟨aZ (aV HB.out _) GA.out⟩⟩
     rw [if_neg z0] at H
     by_cases z1:i=1
     ·subst z1;rw [if_pos rfl] at H;rw [show wrap64 ((1:Int) + 1)=2 from by unfold wrap64;omega] at H;have d3n:decide (1 < ps.length)=true:=decide_eq_true (by have:=C3.out;omega);have H':=aA.mk H;rw [show ((1:Int)).toNat=1 from rfl,show ad.add 1=⟨ad.block,ad.off + 1,none⟩ from rfl] at hxp;clear H z0;go_wp2_with (first|(go_at_call 61;(try simp only [aJ,aK]);(with_reducible refine (aY.calls (rd ps 1) 0 (wrap64 ((l0.length:Int) - 1)) true _ HT.out).mono ?_);rintro e w' ⟨rfl,⟨nd,rfl⟩⟩));go_roundg k1
      case measure=>have:=HK1.out;omega
      case rel=>exact ⟨2,x0,(aC l0 (rd ps 1)).f1,x2,(by first|rfl|(simp;done)),H',⟨by have:=HK1.out;omega⟩,⟨dR (bH BN.out _) NE1 _⟩,⟨bF (cs:=#[.int .i64 x0,.int .i64 x1,.int .i64 x2]) (bH BA.out _) 1 _ rfl⟩,⟨Kd.R_set (Kd.R_drewN HR.out _) (bH BA.out _) (by decide) 1 _⟩,⟨aZ (aV HB.out _) GA.out⟩⟩
     rw [if_neg z1] at H
     by_cases z2:i=2
     ·subst z2;rw [if_pos rfl] at H;rw [show wrap64 ((2:Int) + 1)=3 from by unfold wrap64;omega] at H;have d3n:decide (2 < ps.length)=true:=decide_eq_true (by have:=C3.out;omega);have H':=aA.mk H;rw [show ((2:Int)).toNat=2 from rfl,show ad.add 2=⟨ad.block,ad.off + 2,none⟩ from rfl] at hxp;clear H z0 z1;go_wp2_with (first|(go_at_call 61;(try simp only [aJ,aK]);(with_reducible refine (aY.calls (rd ps 2) 0 (wrap64 ((l0.length:Int) - 1)) true _ HT.out).mono ?_);rintro e w' ⟨rfl,⟨nd,rfl⟩⟩));go_roundg k1
      case measure=>have:=HK1.out;omega
      case rel=>exact ⟨3,x0,x1,(aC l0 (rd ps 2)).f1,(by first|rfl|(simp;done)),H',⟨by have:=HK1.out;omega⟩,⟨dR (bH BN.out _) NE1 _⟩,⟨bF (cs:=#[.int .i64 x0,.int .i64 x1,.int .i64 x2]) (bH BA.out _) 2 _ rfl⟩,⟨Kd.R_set (Kd.R_drewN HR.out _) (bH BA.out _) (by decide) 2 _⟩,⟨aZ (aV HB.out _) GA.out⟩⟩
     rw [if_neg z2] at H;cases H
   ·rw [if_neg c3] at H;have d3:decide (i < (ps.length:Int))=false:=decide_eq_false c3;clear c3;obtain rfl:=os H;have h:rgS o ww kk b x0 x1 x2=some r:=HF.out;clear H HF;have NE1:=NE.out
    have NE2:ga≠gn:=fun e=>NE.out e.symm
    obtain ⟨hcn0,hcn1,hcn2,hcn3,hcn4,hcn5⟩:=eM BN;obtain ⟨hcw0,hcw1,hcw2⟩:=xN BA;have hfw0:=aW BA.out 0;have hfw1:=aW BA.out 1;have hfw2:=aW BA.out 2;unfold rgS at h
    by_cases z0:o=0
    ·rw [if_pos z0] at h;have ee0:(o == 0)=true:=beq_iff_eq.2 z0;have HQ:=aA.mk h;clear h z0;go_wp2_with (first|(go_at_call 165;(try simp only [aJ,aK]);(with_reducible refine (cR.calls ww kk r _ HQ.out).mono ?_);rintro e w' ⟨rfl,⟨nd,rfl⟩⟩));go_ret;exact ⟨rfl,by repeat (first|exact HB.out|apply aV)⟩
    rw [if_neg z0] at h;have ee0:(o == 0)=false:=beq_eq_false_iff_ne.2 z0
    by_cases z1:o=1
    ·rw [if_pos z1] at h;have ee1:(o == 1)=true:=beq_iff_eq.2 z1;have HQ:=aA.mk h;clear h z0 z1;go_wp2_with (first|(go_at_call 120;(try simp only [aJ,aK]);(with_reducible refine (eF.calls kk r _ HQ.out).mono ?_);rintro e w' ⟨rfl,⟨nd,rfl⟩⟩));go_ret;exact ⟨rfl,by repeat (first|exact HB.out|apply aV)⟩
    rw [if_neg z1] at h;have ee1:(o == 1)=false:=beq_eq_false_iff_ne.2 z1
    by_cases z2:o=2
    ·rw [if_pos z2] at h;have ee2:(o == 2)=true:=beq_iff_eq.2 z2;obtain rfl:=Option.some.inj h;clear h z0 z1 z2;go_wp2;go_ret;exact ⟨rfl,by repeat (first|exact HB.out|apply aV)⟩
    rw [if_neg z2] at h;have ee2:(o == 2)=false:=beq_eq_false_iff_ne.2 z2;obtain ⟨t,ht,h⟩:=Option.bind_eq_some_iff.1 h;have HT:=aA.mk ht;clear ht
    cases t with
    | true =>
     rw [if_pos rfl] at h;clear z0 z1 z2
     by_cases y:x0=ww
     ·have f0:(x0 == ww)=true:=beq_iff_eq.2 y;rw [if_pos y] at h;obtain rfl:=Option.some.inj h;clear y h;go_wp2_with (first|(go_at_call 61;(try simp only [aJ,aK]);(with_reducible refine (aY.calls o 3 12 true _ HT.out).mono ?_);rintro e w' ⟨rfl,⟨nd,rfl⟩⟩));go_ret;exact ⟨rfl,by repeat (first|exact HB.out|apply aV)⟩
     ·have f0:(x0 == ww)=false:=beq_eq_false_iff_ne.2 y;rw [if_neg y] at h;obtain rfl:=Option.some.inj h;clear y h;go_wp2_with (first|(go_at_call 61;(try simp only [aJ,aK]);(with_reducible refine (aY.calls o 3 12 true _ HT.out).mono ?_);rintro e w' ⟨rfl,⟨nd,rfl⟩⟩));go_ret;exact ⟨rfl,by repeat (first|exact HB.out|apply aV)⟩
    | false =>
    rw [if_neg (by decide)] at h;obtain ⟨t,ht,h⟩:=Option.bind_eq_some_iff.1 h;have HT2:=aA.mk ht;clear ht
    cases t with
    | true =>
     rw [if_pos rfl] at h;clear z0 z1 z2
     by_cases y:x0=x1
     ·have f0:(x0 == x1)=true:=beq_iff_eq.2 y;rw [if_pos y] at h;obtain rfl:=Option.some.inj h;clear y h;go_wp2_with (first|(go_at_call 61;(try simp only [aJ,aK]);(with_reducible refine (aY.calls o 3 12 false _ HT.out).mono ?_);rintro e w' ⟨rfl,⟨nd,rfl⟩⟩)|(go_at_call 61;(try simp only [aJ,aK]);(with_reducible refine (aY.calls o 13 15 true _ HT2.out).mono ?_);rintro e w' ⟨rfl,⟨nd,rfl⟩⟩));go_ret;exact ⟨rfl,by repeat (first|exact HB.out|apply aV)⟩
     ·have f0:(x0 == x1)=false:=beq_eq_false_iff_ne.2 y;rw [if_neg y] at h;obtain rfl:=Option.some.inj h;clear y h;go_wp2_with (first|(go_at_call 61;(try simp only [aJ,aK]);(with_reducible refine (aY.calls o 3 12 false _ HT.out).mono ?_);rintro e w' ⟨rfl,⟨nd,rfl⟩⟩)|(go_at_call 61;(try simp only [aJ,aK]);(with_reducible refine (aY.calls o 13 15 true _ HT2.out).mono ?_);rintro e w' ⟨rfl,⟨nd,rfl⟩⟩));go_ret;exact ⟨rfl,by repeat (first|exact HB.out|apply aV)⟩
    | false =>
    rw [if_neg (by decide)] at h
    by_cases z3:o=16
    ·rw [if_pos z3] at h;have ee3:(o == 16)=true:=beq_iff_eq.2 z3;obtain rfl:=Option.some.inj h;clear h z0 z1 z2 z3;go_wp2_with (first|(go_at_call 61;(try simp only [aJ,aK]);(with_reducible refine (aY.calls o 3 12 false _ HT.out).mono ?_);rintro e w' ⟨rfl,⟨nd,rfl⟩⟩)|(go_at_call 61;(try simp only [aJ,aK]);(with_reducible refine (aY.calls o 13 15 false _ HT2.out).mono ?_);rintro e w' ⟨rfl,⟨nd,rfl⟩⟩));go_ret;exact ⟨rfl,by repeat (first|exact HB.out|apply aV)⟩
    rw [if_neg z3] at h;have ee3:(o == 16)=false:=beq_eq_false_iff_ne.2 z3
    by_cases z4:o=17
    ·rw [if_pos z4] at h;have ee4:(o == 17)=true:=beq_iff_eq.2 z4;have HQ:=aA.mk h;clear h z0 z1 z2 z3 z4;go_wp2_with (first|(go_at_call 61;(try simp only [aJ,aK]);(with_reducible refine (aY.calls o 3 12 false _ HT.out).mono ?_);rintro e w' ⟨rfl,⟨nd,rfl⟩⟩)|(go_at_call 61;(try simp only [aJ,aK]);(with_reducible refine (aY.calls o 13 15 false _ HT2.out).mono ?_);rintro e w' ⟨rfl,⟨nd,rfl⟩⟩)|(go_at_call 61;(try simp only [aJ,aK]);(with_reducible refine (aY.calls kk 0 (wrap64 (x0 - ww)) r _ HQ.out).mono ?_);rintro e w' ⟨rfl,⟨nd,rfl⟩⟩));go_ret;exact ⟨rfl,by repeat (first|exact HB.out|apply aV)⟩
    rw [if_neg z4] at h;have ee4:(o == 17)=false:=beq_eq_false_iff_ne.2 z4
    by_cases z5:o=18
    ·rw [if_pos z5] at h;have e5:(o == 18)=true:=beq_iff_eq.2 z5;clear z0 z1 z2 z3 z4 z5
     by_cases y:x0=1
     ·have f0:(x0 == 1)=true:=beq_iff_eq.2 y;rw [if_pos y] at h
      by_cases y2:x1=ww
      ·have f1:(x1 == ww)=true:=beq_iff_eq.2 y2;rw [if_pos y2] at h;obtain rfl:=Option.some.inj h;clear y y2 h;go_wp2_with (first|(go_at_call 61;(try simp only [aJ,aK]);(with_reducible refine (aY.calls o 3 12 false _ HT.out).mono ?_);rintro e w' ⟨rfl,⟨nd,rfl⟩⟩)|(go_at_call 61;(try simp only [aJ,aK]);(with_reducible refine (aY.calls o 13 15 false _ HT2.out).mono ?_);rintro e w' ⟨rfl,⟨nd,rfl⟩⟩));go_ret;exact ⟨rfl,by repeat (first|exact HB.out|apply aV)⟩
      ·have f1:(x1 == ww)=false:=beq_eq_false_iff_ne.2 y2;rw [if_neg y2] at h;obtain rfl:=Option.some.inj h;clear y y2 h;go_wp2_with (first|(go_at_call 61;(try simp only [aJ,aK]);(with_reducible refine (aY.calls o 3 12 false _ HT.out).mono ?_);rintro e w' ⟨rfl,⟨nd,rfl⟩⟩)|(go_at_call 61;(try simp only [aJ,aK]);(with_reducible refine (aY.calls o 13 15 false _ HT2.out).mono ?_);rintro e w' ⟨rfl,⟨nd,rfl⟩⟩));go_ret;exact ⟨rfl,by repeat (first|exact HB.out|apply aV)⟩
     ·have f0:(x0 == 1)=false:=beq_eq_false_iff_ne.2 y;rw [if_neg y] at h;obtain rfl:=Option.some.inj h;clear y h;go_wp2_with (first|(go_at_call 61;(try simp only [aJ,aK]);(with_reducible refine (aY.calls o 3 12 false _ HT.out).mono ?_);rintro e w' ⟨rfl,⟨nd,rfl⟩⟩)|(go_at_call 61;(try simp only [aJ,aK]);(with_reducible refine (aY.calls o 13 15 false _ HT2.out).mono ?_);rintro e w' ⟨rfl,⟨nd,rfl⟩⟩));go_ret;exact ⟨rfl,by repeat (first|exact HB.out|apply aV)⟩
    rw [if_neg z5] at h;have e5:(o == 18)=false:=beq_eq_false_iff_ne.2 z5;obtain ⟨t,ht,h⟩:=Option.bind_eq_some_iff.1 h;have HV:=aA.mk ht;clear ht z0 z1 z2 z3 z4 z5
    cases t with
    | false =>
     rw [if_neg (by decide)] at h;obtain rfl:=Option.some.inj h;clear h;go_wp2_with (first|(go_at_call 61;(try simp only [aJ,aK]);(with_reducible refine (aY.calls o 3 12 false _ HT.out).mono ?_);rintro e w' ⟨rfl,⟨nd,rfl⟩⟩)|(go_at_call 61;(try simp only [aJ,aK]);(with_reducible refine (aY.calls o 13 15 false _ HT2.out).mono ?_);rintro e w' ⟨rfl,⟨nd,rfl⟩⟩)|(go_at_call 120;(try simp only [aJ,aK]);(with_reducible refine (eF.calls kk false _ HV.out).mono ?_);rintro e w' ⟨rfl,⟨nd,rfl⟩⟩));go_ret;exact ⟨rfl,by repeat (first|exact HB.out|apply aV)⟩
    | true =>
    rw [if_pos rfl] at h;obtain ⟨t,ht,h⟩:=Option.bind_eq_some_iff.1 h;have HV2:=aA.mk ht;clear ht
    cases t with
    | false =>
     rw [if_neg (by decide)] at h;obtain rfl:=Option.some.inj h;clear h;go_wp2_with (first|(go_at_call 61;(try simp only [aJ,aK]);(with_reducible refine (aY.calls o 3 12 false _ HT.out).mono ?_);rintro e w' ⟨rfl,⟨nd,rfl⟩⟩)|(go_at_call 61;(try simp only [aJ,aK]);(with_reducible refine (aY.calls o 13 15 false _ HT2.out).mono ?_);rintro e w' ⟨rfl,⟨nd,rfl⟩⟩)|(go_at_call 120;(try simp only [aJ,aK]);(with_reducible refine (eF.calls kk true _ HV.out).mono ?_);rintro e w' ⟨rfl,⟨nd,rfl⟩⟩)|(go_at_call 119;(try simp only [aJ,aK]);(with_reducible refine (bU.calls b false _ HV2.out).mono ?_);rintro e w' ⟨rfl,⟨nd,rfl⟩⟩));go_ret;exact ⟨rfl,by repeat (first|exact HB.out|apply aV)⟩
    | true =>
    rw [if_pos rfl] at h
    by_cases y:x0=1
    ·have f0:(x0 == 1)=true:=beq_iff_eq.2 y;rw [if_pos y] at h;obtain rfl:=Option.some.inj h;clear y h;go_wp2_with (first|(go_at_call 61;(try simp only [aJ,aK]);(with_reducible refine (aY.calls o 3 12 false _ HT.out).mono ?_);rintro e w' ⟨rfl,⟨nd,rfl⟩⟩)|(go_at_call 61;(try simp only [aJ,aK]);(with_reducible refine (aY.calls o 13 15 false _ HT2.out).mono ?_);rintro e w' ⟨rfl,⟨nd,rfl⟩⟩)|(go_at_call 120;(try simp only [aJ,aK]);(with_reducible refine (eF.calls kk true _ HV.out).mono ?_);rintro e w' ⟨rfl,⟨nd,rfl⟩⟩)|(go_at_call 119;(try simp only [aJ,aK]);(with_reducible refine (bU.calls b true _ HV2.out).mono ?_);rintro e w' ⟨rfl,⟨nd,rfl⟩⟩));go_ret;exact ⟨rfl,by repeat (first|exact HB.out|apply aV)⟩
    ·have f0:(x0 == 1)=false:=beq_eq_false_iff_ne.2 y;rw [if_neg y] at h;obtain rfl:=Option.some.inj h;clear y h;go_wp2_with (first|(go_at_call 61;(try simp only [aJ,aK]);(with_reducible refine (aY.calls o 3 12 false _ HT.out).mono ?_);rintro e w' ⟨rfl,⟨nd,rfl⟩⟩)|(go_at_call 61;(try simp only [aJ,aK]);(with_reducible refine (aY.calls o 13 15 false _ HT2.out).mono ?_);rintro e w' ⟨rfl,⟨nd,rfl⟩⟩)|(go_at_call 120;(try simp only [aJ,aK]);(with_reducible refine (eF.calls kk true _ HV.out).mono ?_);rintro e w' ⟨rfl,⟨nd,rfl⟩⟩)|(go_at_call 119;(try simp only [aJ,aK]);(with_reducible refine (bU.calls b true _ HV2.out).mono ?_);rintro e w' ⟨rfl,⟨nd,rfl⟩⟩));go_ret;exact ⟨rfl,by repeat (first|exact HB.out|apply aV)⟩
def cZ.l0:Nat→List (bN)→List (bN)→Int→Int→Option (Bool)
 | 0,_,_,_,_=>none
 | k + 1,x0,x9,x10,x11=>if x11 < x10 then (if 0≤x11 then (if x11 < (x9.length:Int) then (if x11≤(x0.length:Int) then ((eZ.f k (x0.take (x11:Int).toNat) ((aC x9 x11).f0) ((aC x9 x11).f1) ((aC x9 x11).f2) ((aC x9 x11).f3) ((aC x9 x11).f4) ((aC x9 x11).f5)).bind fun A5=>(if A5=true then (cZ.l0 k x0 x9 x10 (wrap64 (x11 + 1))) else (some false))) else (none)) else (none)) else (none)) else (some true)
def cZ.f (k:Nat) (l0:List (bN)):Option (Bool):=(aY.f (l0.length:Int) 1 80).bind fun A6=>(if A6=true then (cZ.l0 k l0 l0 (l0.length:Int) 0) else (some false))
theorem cZ.calls (k:Nat) (A0:Option Addr) (c0:Nat) (l0:List (bN)) (r:Bool) (w:World) (hr0:Kd.C eV w A0 l0.length l0) (hc0:l0.length≤c0) (h:cZ.f k l0=some r) :
  Calls Try.prog 121 #[.slice A0 l0.length c0] w fun e w'=>e = .returned (.bool r)∧Below w.heap.size w w':=by
 have hu99:=Try.underlying99;have HR0:=aA.mk hr0;have HC0:=aA.mk hc0;clear hr0 hc0;have HB:=aA.mk (Below.refl w.heap.size w);have H:((aY.f (l0.length:Int) 1 80).bind fun A6=>(if A6=true then (cZ.l0 k l0 l0 (l0.length:Int) 0) else (some false)))=some r:=h;clear h;replace H:=ob H;obtain ⟨A6,A20,H⟩:=H;replace H:(if A6=true then (cZ.l0 k l0 l0 (l0.length:Int) 0) else (some false))=some r:=H;have A2:=aA.mk A20;clear A20
 by_cases c3:A6=true
 ·subst c3
  have H1:(cZ.l0 k l0 l0 (l0.length:Int) 0)=some r:=by rw [if_pos rfl] at H;exact H
  clear H;have H:=H1;clear H1;have H':=aA.mk H;clear H
  go_enter Try.func121,Try.ntmps121
  go_wp2_with (first|((with_reducible refine aD (f:=61) rfl ?_);refine aT (some 7) rfl rfl Try.func61 (by kernel_rfl) rfl #[.int .i64 (l0.length:Int),.int .i64 1,.int .i64 80] rfl ml ?_;(with_reducible refine (aY.calls (l0.length:Int) 1 80 true _ A2.out).mono ?_);rintro e w' ⟨rfl,⟨nd,rfl⟩⟩;refine ⟨_,rfl,?_⟩))
  go_loopg [11] k (fun kq v11 w'=>∃ (A1:Int),v11 = .int .i64 A1∧aA (cZ.l0 kq l0 l0 (l0.length:Int) A1=some r)∧aA (kq≤k)∧aA (Below w.heap.size w w'))
  case atStart=>exact ⟨(0),(by first|rfl|(simp;done)|(simp [*];done)),H',⟨Nat.le_refl _⟩,⟨by exact tb HB⟩⟩
  case round =>
   clear H';obtain ⟨A1,rfl,HA,HK1,HB⟩:=hrel
   cases gk with
   | zero=>exact absurd HA.out (by simp [cZ.l0])
   | succ k1 =>
    have H:=HA.out;clear HA;simp only [cZ.l0] at H
    by_cases c4:A1 < (l0.length:Int)
    ·rw [if_pos c4] at H;have c4b0:decide (A1 < (l0.length:Int))=true:=decide_eq_true c4;clear c4
     by_cases c5:0≤A1
     ·rw [if_pos c5] at H;have c5b0:decide (0≤A1)=true:=decide_eq_true c5;clear c5
      by_cases c6:A1 < (l0.length:Int)
      ·rw [if_pos c6] at H;have c6b0:decide (A1 < (l0.length:Int))=true:=decide_eq_true c6;clear c6;have c7b0:=eq_true (od:0≤A1)
       by_cases c8:A1≤(l0.length:Int)
       ·rw [if_pos c8] at H;have c8b0:=eq_true c8;have c8b1:decide (A1≤(l0.length:Int))=true:=decide_eq_true c8;clear c8;obtain ⟨y104,hy104⟩:∃ y_:List (bN),y_=(l0.take (A1:Int).toNat):=⟨_,rfl⟩;replace H:((eZ.f k1 y104 ((aC l0 A1).f0) ((aC l0 A1).f1) ((aC l0 A1).f2) ((aC l0 A1).f3) ((aC l0 A1).f4) ((aC l0 A1).f5)).bind fun A5=>(if A5=true then (cZ.l0 k1 l0 l0 (l0.length:Int) (wrap64 (A1 + 1))) else (some false)))=some r:=gM hy104 H;have Ny104:=aA.mk hy104;clear hy104;replace H:=ob H;obtain ⟨A5,A90,H⟩:=H;replace H:(if A5=true then (cZ.l0 k1 l0 l0 (l0.length:Int) (wrap64 (A1 + 1))) else (some false))=some r:=H;have A9:=aA.mk A90;clear A90
        by_cases c10:A5=true
        ·subst c10
         have H1:(cZ.l0 k1 l0 l0 (l0.length:Int) (wrap64 (A1 + 1)))=some r:=by rw [if_pos rfl] at H;exact H
         clear H;have H:=H1;clear H1;have H':=aA.mk H;clear H;have p102:0≤(A1:Int):=od;have q102:A1 < (l0.length:Int):=od;obtain ⟨ad102,e102,hx102_0,hx102_1,hx102_2,hx102_3,hx102_4,hx102_5⟩:=dD HR0.out A1 p102 q102;cases e102;replace hx102_0:=ct HB hx102_0;replace hx102_1:=ct HB hx102_1;replace hx102_2:=ct HB hx102_2;replace hx102_3:=ct HB hx102_3;replace hx102_4:=ct HB hx102_4;replace hx102_5:=ct HB hx102_5;replace p102:=eq_true p102;replace q102:=eq_true q102
         try go_wp2_with (first|((with_reducible refine bM (N:=4) rfl ?_);refine bx (N:=4) (cs:=#[.int .i64 0,.int .i64 0,.int .i64 0,.int .i64 0,.int .i64 0,.int .i64 0]) (t:=99) ?_;intro A3 hg w11 hbox hb;have A4:=aA.mk (hbox);have A7:=aA.mk ((by rw [hg];exact (aM (tb HB)):w.heap.size≤A3));have A8:=aA.mk ((by rw [hg];exact (aM (tb HB)):w.heap.size≤A3));replace HB:=aA.mk (aE (tb HB) hb);clear hb hbox hg;have hcz12__:=eM A4;have hfz12__:=f_ A4))
         have n0_:aA (((((((w11.setCell ⟨A3,0,none⟩ (.int .i64 ((aC l0 A1).f0))).setCell ⟨A3,1,none⟩ (.int .i64 ((aC l0 A1).f1))).setCell ⟨A3,2,none⟩ (.int .i64 ((aC l0 A1).f2))).setCell ⟨A3,3,none⟩ (.int .i64 ((aC l0 A1).f3))).setCell ⟨A3,4,none⟩ (.int .i64 ((aC l0 A1).f4))).setCell ⟨A3,5,none⟩ (.int .i64 ((aC l0 A1).f5))).heap[A3]? = some (.cells #[.int .i64 ((aC l0 A1).f0),.int .i64 ((aC l0 A1).f1),.int .i64 ((aC l0 A1).f2),.int .i64 ((aC l0 A1).f3),.int .i64 ((aC l0 A1).f4),.int .i64 ((aC l0 A1).f5)] 99 (0,0))):=⟨by (with_reducible repeat (first|refine bH ?_ _|refine bE ?_|refine bK ?_ _));refine bF (cs:=#[.int .i64 ((aC l0 A1).f0),.int .i64 ((aC l0 A1).f1),.int .i64 ((aC l0 A1).f2),.int .i64 ((aC l0 A1).f3),.int .i64 ((aC l0 A1).f4),.int .i64 0]) ?_ 5 _ rfl;(with_reducible repeat (first|refine bH ?_ _|refine bE ?_|refine bK ?_ _));refine bF (cs:=#[.int .i64 ((aC l0 A1).f0),.int .i64 ((aC l0 A1).f1),.int .i64 ((aC l0 A1).f2),.int .i64 ((aC l0 A1).f3),.int .i64 0,.int .i64 0]) ?_ 4 _ rfl;(with_reducible repeat (first|refine bH ?_ _|refine bE ?_|refine bK ?_ _));refine bF (cs:=#[.int .i64 ((aC l0 A1).f0),.int .i64 ((aC l0 A1).f1),.int .i64 ((aC l0 A1).f2),.int .i64 0,.int .i64 0,.int .i64 0]) ?_ 3 _ rfl;(with_reducible repeat (first|refine bH ?_ _|refine bE ?_|refine bK ?_ _));refine bF (cs:=#[.int .i64 ((aC l0 A1).f0),.int .i64 ((aC l0 A1).f1),.int .i64 0,.int .i64 0,.int .i64 0,.int .i64 0]) ?_ 2 _ rfl;(with_reducible repeat (first|refine bH ?_ _|refine bE ?_|refine bK ?_ _));refine bF (cs:=#[.int .i64 ((aC l0 A1).f0),.int .i64 0,.int .i64 0,.int .i64 0,.int .i64 0,.int .i64 0]) ?_ 1 _ rfl;(with_reducible repeat (first|refine bH ?_ _|refine bE ?_|refine bK ?_ _));refine bF (cs:=#[.int .i64 0,.int .i64 0,.int .i64 0,.int .i64 0,.int .i64 0,.int .i64 0]) ?_ 0 _ rfl;(with_reducible repeat (first|refine bH ?_ _|refine bE ?_|refine bK ?_ _));exact A4.out⟩;have n1_:aA (Below w.heap.size w ((((((w11.setCell ⟨A3,0,none⟩ (.int .i64 ((aC l0 A1).f0))).setCell ⟨A3,1,none⟩ (.int .i64 ((aC l0 A1).f1))).setCell ⟨A3,2,none⟩ (.int .i64 ((aC l0 A1).f2))).setCell ⟨A3,3,none⟩ (.int .i64 ((aC l0 A1).f3))).setCell ⟨A3,4,none⟩ (.int .i64 ((aC l0 A1).f4))).setCell ⟨A3,5,none⟩ (.int .i64 ((aC l0 A1).f5)))):=⟨by exact tb HB⟩;(try clear A4);(try clear HB);generalize ((((((w11.setCell ⟨A3,0,none⟩ (.int .i64 ((aC l0 A1).f0))).setCell ⟨A3,1,none⟩ (.int .i64 ((aC l0 A1).f1))).setCell ⟨A3,2,none⟩ (.int .i64 ((aC l0 A1).f2))).setCell ⟨A3,3,none⟩ (.int .i64 ((aC l0 A1).f3))).setCell ⟨A3,4,none⟩ (.int .i64 ((aC l0 A1).f4))).setCell ⟨A3,5,none⟩ (.int .i64 ((aC l0 A1).f5)))=w13 at n0_ n1_ ⊢;have A4:=n0_;have HB:=n1_;clear n0_ n1_;have n0_:=aA.mk (bE A4.out);have n1_:=aA.mk (bQ HB.out);clear A4;clear HB;have A4:=n0_;have HB:=n1_;clear n0_ n1_;have q15:(A1:Int)≤((l0.length:Int):Int):=od;obtain ⟨i015,hi015,_,hsz15,_⟩:=info_parts hJ;have hroom15:l0.length≤c0:=HC0.out;have hC15:Kd.C eV _ (some ad102) l0.length l0:=HR0.out;have hcut15:=sG (P:=Try.prog) 54 99 .i64 Try.underlying54 hi015 (some ad102) l0.length c0 A1 (od) q15 hroom15;have hr15:=Kd.C_take (m:=(A1:Int).toNat) hC15 (by omega);have hy15:y104.length=(A1:Int).toNat:=(by rw [Ny104.out,List.length_take];omega);rw [← Ny104.out] at hr15;rw [← hy15] at hcut15;have HR107:=aA.mk hr15;have HC107:=aA.mk (show y104.length≤c0 from by omega);clear hr15 hC15 hroom15 hi015 hsz15;have KY15:=aA.mk hy15;clear hy15
         replace q15:=eq_true q15;refine eW (n:=6) (S:=fun w'=>w'.cell? ⟨A3,0,none⟩=some (.int .i64 ((aC l0 A1).f0))∧w'.cell? ⟨A3,1,none⟩=some (.int .i64 ((aC l0 A1).f1))∧w'.cell? ⟨A3,2,none⟩=some (.int .i64 ((aC l0 A1).f2))∧w'.cell? ⟨A3,3,none⟩=some (.int .i64 ((aC l0 A1).f3))∧w'.cell? ⟨A3,4,none⟩=some (.int .i64 ((aC l0 A1).f4))∧w'.cell? ⟨A3,5,none⟩=some (.int .i64 ((aC l0 A1).f5))) (ds:=[]) (tf 0 6) (by kernel_rfl) rfl rfl ⟨(aG A4.out 0).trans rfl,(aG A4.out 1).trans rfl,(aG A4.out 2).trans rfl,(aG A4.out 3).trans rfl,(aG A4.out 4).trans rfl,(aG A4.out 5).trans rfl⟩ (fun hHeld=>?_);generalize w13.drew=w14 at A4 HB HR107 hHeld ⊢;refine pv 0 16 (tf 1 5) ?_;refine pv 1 17 (tf 2 4) ?_;refine pv 2 18 (tf 3 3) ?_;refine tv 3 19 (tf 4 2) hHeld ?_;refine fZ (i:=4) (N:=some 20) (tf 5 1) rfl rfl (by kernel_rfl) (by decide) (fun K hK=>?_);refine fV Try.func136 (by kernel_rfl) rfl #[.slice (some ad102) y104.length c0,.agg #[.int .i64 ((aC l0 A1).f0),.int .i64 ((aC l0 A1).f1),.int .i64 ((aC l0 A1).f2),.int .i64 ((aC l0 A1).f3),.int .i64 ((aC l0 A1).f4),.int .i64 ((aC l0 A1).f5)]] (by rfl) rfl rfl ml ?_
         with_reducible refine (eZ.calls k1 _ _ y104 ((aC l0 A1).f0) ((aC l0 A1).f1) ((aC l0 A1).f2) ((aC l0 A1).f3) ((aC l0 A1).f4) ((aC l0 A1).f5) true _ ?side1 ?side2 A9.out).mono ?_
         (case side1=>exact cw (Kd.C_below HR107.out HB.out))
         (case side2=>exact HC107.out)
         rintro e w16 ⟨rfl,hb⟩;refine ⟨_,rfl,?_⟩;have n0_:=aA.mk (aQ (g:=A3) (o := .cells #[.int .i64 ((aC l0 A1).f0),.int .i64 ((aC l0 A1).f1),.int .i64 ((aC l0 A1).f2),.int .i64 ((aC l0 A1).f3),.int .i64 ((aC l0 A1).f4),.int .i64 ((aC l0 A1).f5)] 99 (0,0)) (dr A4) hb);have n1_:=aA.mk (aE (tb HB) hb);clear A4;clear HB;have A4:=n0_;have HB:=n1_;clear n0_ n1_;(try clear hb);(try clear hb2);(try clear hk);(try clear hi);refine hK.out _ _ ⟨(aG A4.out 0).trans rfl,(aG A4.out 1).trans rfl,(aG A4.out 2).trans rfl,(aG A4.out 3).trans rfl,(aG A4.out 4).trans rfl,(aG A4.out 5).trans rfl⟩ (fun hHeld=>?_);clear hK K;refine dZ (a':=?_) ?_ ?_;rotate_left
         ·show Act.put _ (some 20) _=_
          simp only [Act.put,s1,s2,s3,aJ,aK];rfl
         refine pv 5 21 (tf 6 0) ?_;refine gG (by kernel_rfl) ?_
         try go_wp2
         go_roundg k1
         case measure=>have:=HK1.out;omega
         case rel=>exact ⟨(wrap64 (A1 + 1)),(by first|rfl|(simp;done)|(simp [*];done)),H',⟨by have:=HK1.out;omega⟩,⟨by exact tb HB⟩⟩
        ·replace c10:=Bool.eq_false_iff.mpr c10;subst c10
         have H1:(some false)=some r:=by rw [if_neg (show ¬ (false=true) by decide)] at H;exact H
         clear H;have H:=H1;clear H1;obtain rfl:=os H;have p102:0≤(A1:Int):=od;have q102:A1 < (l0.length:Int):=od;obtain ⟨ad102,e102,hx102_0,hx102_1,hx102_2,hx102_3,hx102_4,hx102_5⟩:=dD HR0.out A1 p102 q102;cases e102;replace hx102_0:=ct HB hx102_0;replace hx102_1:=ct HB hx102_1;replace hx102_2:=ct HB hx102_2;replace hx102_3:=ct HB hx102_3;replace hx102_4:=ct HB hx102_4;replace hx102_5:=ct HB hx102_5;replace p102:=eq_true p102;replace q102:=eq_true q102
         try go_wp2_with (first|((with_reducible refine bM (N:=4) rfl ?_);refine bx (N:=4) (cs:=#[.int .i64 0,.int .i64 0,.int .i64 0,.int .i64 0,.int .i64 0,.int .i64 0]) (t:=99) ?_;intro A3 hg w17 hbox hb;have A4:=aA.mk (hbox);have A7:=aA.mk ((by rw [hg];exact (aM (tb HB)):w.heap.size≤A3));have A8:=aA.mk ((by rw [hg];exact (aM (tb HB)):w.heap.size≤A3));replace HB:=aA.mk (aE (tb HB) hb);clear hb hbox hg;have hcz18__:=eM A4;have hfz18__:=f_ A4))
         have n0_:aA (((((((w17.setCell ⟨A3,0,none⟩ (.int .i64 ((aC l0 A1).f0))).setCell ⟨A3,1,none⟩ (.int .i64 ((aC l0 A1).f1))).setCell ⟨A3,2,none⟩ (.int .i64 ((aC l0 A1).f2))).setCell ⟨A3,3,none⟩ (.int .i64 ((aC l0 A1).f3))).setCell ⟨A3,4,none⟩ (.int .i64 ((aC l0 A1).f4))).setCell ⟨A3,5,none⟩ (.int .i64 ((aC l0 A1).f5))).heap[A3]? = some (.cells #[.int .i64 ((aC l0 A1).f0),.int .i64 ((aC l0 A1).f1),.int .i64 ((aC l0 A1).f2),.int .i64 ((aC l0 A1).f3),.int .i64 ((aC l0 A1).f4),.int .i64 ((aC l0 A1).f5)] 99 (0,0))):=⟨by (with_reducible repeat (first|refine bH ?_ _|refine bE ?_|refine bK ?_ _));refine bF (cs:=#[.int .i64 ((aC l0 A1).f0),.int .i64 ((aC l0 A1).f1),.int .i64 ((aC l0 A1).f2),.int .i64 ((aC l0 A1).f3),.int .i64 ((aC l0 A1).f4),.int .i64 0]) ?_ 5 _ rfl;(with_reducible repeat (first|refine bH ?_ _|refine bE ?_|refine bK ?_ _));refine bF (cs:=#[.int .i64 ((aC l0 A1).f0),.int .i64 ((aC l0 A1).f1),.int .i64 ((aC l0 A1).f2),.int .i64 ((aC l0 A1).f3),.int .i64 0,.int .i64 0]) ?_ 4 _ rfl;(with_reducible repeat (first|refine bH ?_ _|refine bE ?_|refine bK ?_ _));refine bF (cs:=#[.int .i64 ((aC l0 A1).f0),.int .i64 ((aC l0 A1).f1),.int .i64 ((aC l0 A1).f2),.int .i64 0,.int .i64 0,.int .i64 0]) ?_ 3 _ rfl;(with_reducible repeat (first|refine bH ?_ _|refine bE ?_|refine bK ?_ _));refine bF (cs:=#[.int .i64 ((aC l0 A1).f0),.int .i64 ((aC l0 A1).f1),.int .i64 0,.int .i64 0,.int .i64 0,.int .i64 0]) ?_ 2 _ rfl;(with_reducible repeat (first|refine bH ?_ _|refine bE ?_|refine bK ?_ _));refine bF (cs:=#[.int .i64 ((aC l0 A1).f0),.int .i64 0,.int .i64 0,.int .i64 0,.int .i64 0,.int .i64 0]) ?_ 1 _ rfl;(with_reducible repeat (first|refine bH ?_ _|refine bE ?_|refine bK ?_ _));refine bF (cs:=#[.int .i64 0,.int .i64 0,.int .i64 0,.int .i64 0,.int .i64 0,.int .i64 0]) ?_ 0 _ rfl;(with_reducible repeat (first|refine bH ?_ _|refine bE ?_|refine bK ?_ _));exact A4.out⟩;have n1_:aA (Below w.heap.size w ((((((w17.setCell ⟨A3,0,none⟩ (.int .i64 ((aC l0 A1).f0))).setCell ⟨A3,1,none⟩ (.int .i64 ((aC l0 A1).f1))).setCell ⟨A3,2,none⟩ (.int .i64 ((aC l0 A1).f2))).setCell ⟨A3,3,none⟩ (.int .i64 ((aC l0 A1).f3))).setCell ⟨A3,4,none⟩ (.int .i64 ((aC l0 A1).f4))).setCell ⟨A3,5,none⟩ (.int .i64 ((aC l0 A1).f5)))):=⟨by exact tb HB⟩;(try clear A4);(try clear HB);generalize ((((((w17.setCell ⟨A3,0,none⟩ (.int .i64 ((aC l0 A1).f0))).setCell ⟨A3,1,none⟩ (.int .i64 ((aC l0 A1).f1))).setCell ⟨A3,2,none⟩ (.int .i64 ((aC l0 A1).f2))).setCell ⟨A3,3,none⟩ (.int .i64 ((aC l0 A1).f3))).setCell ⟨A3,4,none⟩ (.int .i64 ((aC l0 A1).f4))).setCell ⟨A3,5,none⟩ (.int .i64 ((aC l0 A1).f5)))=w19 at n0_ n1_ ⊢;have A4:=n0_;have HB:=n1_;clear n0_ n1_;have n0_:=aA.mk (bE A4.out);have n1_:=aA.mk (bQ HB.out);clear A4;clear HB;have A4:=n0_;have HB:=n1_;clear n0_ n1_;have q21:(A1:Int)≤((l0.length:Int):Int):=od;obtain ⟨i021,hi021,_,hsz21,_⟩:=info_parts hJ;have hroom21:l0.length≤c0:=HC0.out;have hC21:Kd.C eV _ (some ad102) l0.length l0:=HR0.out;have hcut21:=sG (P:=Try.prog) 54 99 .i64 Try.underlying54 hi021 (some ad102) l0.length c0 A1 (od) q21 hroom21;have hr21:=Kd.C_take (m:=(A1:Int).toNat) hC21 (by omega);have hy21:y104.length=(A1:Int).toNat:=(by rw [Ny104.out,List.length_take];omega);rw [← Ny104.out] at hr21;rw [← hy21] at hcut21;have HR107:=aA.mk hr21;have HC107:=aA.mk (show y104.length≤c0 from by omega);clear hr21 hC21 hroom21 hi021 hsz21;have KY21:=aA.mk hy21;clear hy21
         replace q21:=eq_true q21;refine eW (n:=6) (S:=fun w'=>w'.cell? ⟨A3,0,none⟩=some (.int .i64 ((aC l0 A1).f0))∧w'.cell? ⟨A3,1,none⟩=some (.int .i64 ((aC l0 A1).f1))∧w'.cell? ⟨A3,2,none⟩=some (.int .i64 ((aC l0 A1).f2))∧w'.cell? ⟨A3,3,none⟩=some (.int .i64 ((aC l0 A1).f3))∧w'.cell? ⟨A3,4,none⟩=some (.int .i64 ((aC l0 A1).f4))∧w'.cell? ⟨A3,5,none⟩=some (.int .i64 ((aC l0 A1).f5))) (ds:=[]) (tf 0 6) (by kernel_rfl) rfl rfl ⟨(aG A4.out 0).trans rfl,(aG A4.out 1).trans rfl,(aG A4.out 2).trans rfl,(aG A4.out 3).trans rfl,(aG A4.out 4).trans rfl,(aG A4.out 5).trans rfl⟩ (fun hHeld=>?_);generalize w19.drew=w20 at A4 HB HR107 hHeld ⊢;refine pv 0 16 (tf 1 5) ?_;refine pv 1 17 (tf 2 4) ?_;refine pv 2 18 (tf 3 3) ?_;refine tv 3 19 (tf 4 2) hHeld ?_;refine fZ (i:=4) (N:=some 20) (tf 5 1) rfl rfl (by kernel_rfl) (by decide) (fun K hK=>?_);refine fV Try.func136 (by kernel_rfl) rfl #[.slice (some ad102) y104.length c0,.agg #[.int .i64 ((aC l0 A1).f0),.int .i64 ((aC l0 A1).f1),.int .i64 ((aC l0 A1).f2),.int .i64 ((aC l0 A1).f3),.int .i64 ((aC l0 A1).f4),.int .i64 ((aC l0 A1).f5)]] (by rfl) rfl rfl ml ?_
         with_reducible refine (eZ.calls k1 _ _ y104 ((aC l0 A1).f0) ((aC l0 A1).f1) ((aC l0 A1).f2) ((aC l0 A1).f3) ((aC l0 A1).f4) ((aC l0 A1).f5) false _ ?side1 ?side2 A9.out).mono ?_
         (case side1=>exact cw (Kd.C_below HR107.out HB.out))
         (case side2=>exact HC107.out)
         rintro e w22 ⟨rfl,hb⟩;refine ⟨_,rfl,?_⟩;have n0_:=aA.mk (aQ (g:=A3) (o := .cells #[.int .i64 ((aC l0 A1).f0),.int .i64 ((aC l0 A1).f1),.int .i64 ((aC l0 A1).f2),.int .i64 ((aC l0 A1).f3),.int .i64 ((aC l0 A1).f4),.int .i64 ((aC l0 A1).f5)] 99 (0,0)) (dr A4) hb);have n1_:=aA.mk (aE (tb HB) hb);clear A4;clear HB;have A4:=n0_;have HB:=n1_;clear n0_ n1_;(try clear hb);(try clear hb2);(try clear hk);(try clear hi);refine hK.out _ _ ⟨(aG A4.out 0).trans rfl,(aG A4.out 1).trans rfl,(aG A4.out 2).trans rfl,(aG A4.out 3).trans rfl,(aG A4.out 4).trans rfl,(aG A4.out 5).trans rfl⟩ (fun hHeld=>?_);clear hK K;refine dZ (a':=?_) ?_ ?_;rotate_left
         ·show Act.put _ (some 20) _=_
          simp only [Act.put,s1,s2,s3,aJ,aK];rfl
         refine pv 5 21 (tf 6 0) ?_;refine gG (by kernel_rfl) ?_
         try go_wp2
         go_ret;exact ⟨er,tb HB⟩
       ·rw [if_neg c8] at H;exact absurd H (by simp)
      ·rw [if_neg c6] at H;exact absurd H (by simp)
     ·rw [if_neg c5] at H;exact absurd H (by simp)
    ·rw [if_neg c4] at H;have c4b0:decide (A1 < (l0.length:Int))=false:=decide_eq_false c4;clear c4;obtain rfl:=os H;go_wp2;go_ret;exact ⟨er,tb HB⟩
 ·replace c3:=Bool.eq_false_iff.mpr c3;subst c3
  have H1:(some false)=some r:=by rw [if_neg (show ¬ (false=true) by decide)] at H;exact H
  clear H;have H:=H1;clear H1;obtain rfl:=os H
  go_enter Try.func121,Try.ntmps121
  go_wp2_with (first|((with_reducible refine aD (f:=61) rfl ?_);refine aT (some 7) rfl rfl Try.func61 (by kernel_rfl) rfl #[.int .i64 (l0.length:Int),.int .i64 1,.int .i64 80] rfl ml ?_;(with_reducible refine (aY.calls (l0.length:Int) 1 80 false _ A2.out).mono ?_);rintro e w' ⟨rfl,⟨nd,rfl⟩⟩;refine ⟨_,rfl,?_⟩));go_ret;exact ⟨er,tb HB⟩
end Go.Proofs.Ythipjoioicmcnaa.G
namespace Go.Proofs.Ythipjoioicmcnaa.Fv
open Go.RowKit Go.Proofs.YthipjoioicmcnaaW.PrintWords Go.Proofs.YthipjoioicmcnaaW.PrintLast Go.Proofs.YthipjoioicmcnaaW.PrintMore
structure iM (P:Program) (c:Nat):Prop where
 out : ∃ fn, P.funcs[c]? = some fn ∧ (fn.name == "runtime.NumGoroutine") = false ∧ fn.body.isSome = true
theorem iM.of {P : Program} {c : Nat} {fn : Func} (hf : P.funcs[c]? = some fn) (hname : (fn.name == "runtime.NumGoroutine") = false) (hb : fn.body.isSome = true) : iM P c := ⟨fn, hf, hname, hb⟩
section
variable {P:Program} {ops:Array Oper} {rest:List Oper} {o:Oper} {a:Act} {w:World} {Q:Exit→Act→World→Prop}
theorem pL {q:Operand} {ars:Array Operand} {ts:Array TypeId} (_ho:o.op = .call { callee := .value q,args:=ars,argTypes:=ts }) (h:wpList P ops Q (o :: rest) a w):wpList P ops Q (o :: rest) a w:=h
theorem aAF (N:Option Tmp) (hd:o.dst=N) (hg:o.guard=none) {f:FuncId} {q:Operand} {caps:Array Value} {ars:Array Operand} {ts:Array TypeId} (hf:iM P f)
  (hv:a.eval q = .func (.func f) #[] caps) (args:Array Value) (hop:o.op = .call { callee := .value q,args:=ars,argTypes:=ts }) (hargs:ars.map a.eval=args)
  (h:Calls P f (args ++ caps) w fun e w'=>∃ v,e = .returned v∧wpList P ops Q rest (a.put N v) w'):wpList P ops Q (o :: rest) a w:=by
 obtain ⟨fn,hf1,hf2,hf3⟩:=hf.out
 refine wpList_plain hg fun K hK=>?_
 have he:=pZ hf1 hf2 hf3 (args ++ caps) w
 have hrun:(execOp a.eval o).run P w = .ok (.enter f (args ++ caps)) w:=by
  unfold execOp
  simp [hop,resolve,hv,Deferred.ofValue,invoke,hargs,he]
 unfold Oper.wp
 rw [hrun,Oper.upon_enter]
 refine h.mono fun e w'' hh=>?_
 obtain ⟨v,rfl,hk⟩:=hh
 subst hd
 exact hK _ _ hk
end
end Go.Proofs.Ythipjoioicmcnaa.Fv
namespace Go.Proofs.Ythipjoioicmcnaa.G
open Go.RowKit Go.Proofs.YthipjoioicmcnaaW.PrintWords Go.Proofs.YthipjoioicmcnaaW.PrintLast Go.Proofs.YthipjoioicmcnaaW.PrintMore Go.Proofs.Ythipjoioicmcnaa.Sh Go.Proofs.Ythipjoioicmcnaa.Fv
attribute [local go_sem] eS eR fI fJ eI eJ eU eT
mutual
def cC.l0 (a2:(Int→Option Bool)):Nat→List (bN)→List Bool→Int→Option (List Bool)
 | 0,_,_,_=>none
 | k + 1,x0,x7,x8=>if x8 ≥ 0 then (if 0≤x8 then (if x8 < (x7.length:Int) then (if cW false x7 x8=true then ((a2 x8).bind fun A8=>(cC.j1 a2 k x0 x7 x8 (!A8))) else (cC.j1 a2 k x0 x7 x8 true)) else (none)) else (none)) else (some x7)
def cC.j1 (a2:(Int→Option Bool)):Nat→List (bN)→List Bool→Int→Bool→Option (List Bool)
 | 0,_,_,_,_=>none
 | k + 1,x0,x7,x8,x32=>if x32=true then (cC.l0 a2 k x0 x7 (wrap64 (x8 - 1))) else (if 0≤x8 then (if x8 < (x0.length:Int) then ((dB.f k ((aC x0 x8).f0) ((aC x0 x8).f1) ((aC x0 x8).f2) ((aC x0 x8).f3) ((aC x0 x8).f4) ((aC x0 x8).f5)).bind fun A3=>(cC.l1 a2 k x0 x7 x8 A3 (A3.length:Int) 0)) else (none)) else (none))
def cC.l1 (a2:(Int→Option Bool)):Nat→List (bN)→List Bool→Int→List Int→Int→Int→Option (List Bool)
 | 0,_,_,_,_,_,_=>none
 | k + 1,x0,x7,x8,x37,x38,x39=>if x39 < x38 then (if 0≤x39 then (if x39 < (x37.length:Int) then (if 0≤(rd x37 x39) then (if (rd x37 x39) < (x7.length:Int) then (cC.l1 a2 k x0 (x7.set ((rd x37 x39):Int).toNat true) x8 x37 x38 (wrap64 (x39 + 1))) else (none)) else (none)) else (none)) else (none)) else (cC.l0 a2 k x0 x7 (wrap64 (x8 - 1)))
end
def cC.f (k:Nat) (l0:List (bN)) (a1:Int) (a2:(Int→Option Bool)):Option (List Bool):=if 0≤(l0.length:Int) then (if ((l0.length:Int):Int).toNat≤281474976710656 then ((some (List.replicate ((l0.length:Int):Int).toNat false:List Bool)).bind fun y101=>(if 0≤a1 then (if a1 < (y101.length:Int) then (cC.l0 a2 k l0 (y101.set (a1:Int).toNat true) a1) else (none)) else (none))) else (none)) else (none)
theorem cC.calls (k:Nat) (A0:Option Addr) (c0:Nat) (l0:List (bN)) (a1:Int) (lP:Nat) (q2_:Array Value) (a2:(Int→Option Bool)) (r:List Bool) (w:World) (hr0:Kd.C eV w A0 l0.length l0) (hc0:l0.length≤c0) (hf2_:iM Try.prog lP) (hp2_:∀ W_,Below w.heap.size w W_→∀ x_ r_,a2 x_=some r_→Calls Try.prog lP (#[.int .i64 x_] ++ q2_) W_ fun e_ W2_=>e_ = .returned (.bool r_)∧Below W_.heap.size W_ W2_) (h:cC.f k l0 a1 a2=some r) :
  Calls Try.prog 137 #[.slice A0 l0.length c0,.int .i64 a1,.func (.func lP) #[] q2_] w fun e w'=>∃ v0_:Value,e = .returned (v0_)∧Kd.R Kd.bool 4 w' w.heap.size (fun _=>True) v0_ r∧Below w.heap.size w w':=by
 have hu99:=Try.underlying99;have HR0:=aA.mk hr0;have HC0:=aA.mk hc0;clear hr0 hc0;have HF2_:=hf2_;have HP2_:=aA.mk hp2_;clear hf2_ hp2_;have HB:=aA.mk (Below.refl w.heap.size w);have H:(if 0≤(l0.length:Int) then (if ((l0.length:Int):Int).toNat≤281474976710656 then ((some (List.replicate ((l0.length:Int):Int).toNat false:List Bool)).bind fun y101=>(if 0≤a1 then (if a1 < (y101.length:Int) then (cC.l0 a2 k l0 (y101.set (a1:Int).toNat true) a1) else (none)) else (none))) else (none)) else (none))=some r:=h;clear h
 by_cases c4:0≤(l0.length:Int)
 ·rw [if_pos c4] at H;have c4b0:=eq_true c4;have c4b1:decide (0≤(l0.length:Int))=true:=decide_eq_true c4;clear c4
  by_cases c5:((l0.length:Int):Int).toNat≤281474976710656
  ·rw [if_pos c5] at H;have c5b0:=eq_true c5;have c5b1:decide (((l0.length:Int):Int).toNat≤281474976710656)=true:=decide_eq_true c5;clear c5;obtain ⟨y101,hy101⟩:∃ y_:List Bool,y_=(List.replicate ((l0.length:Int):Int).toNat false):=⟨_,rfl⟩;replace H:(if 0≤a1 then (if a1 < (y101.length:Int) then (cC.l0 a2 k l0 (y101.set (a1:Int).toNat true) a1) else (none)) else (none))=some r:=gM hy101 H;have Ny101:=aA.mk hy101;clear hy101
   by_cases c6:0≤a1
   ·rw [if_pos c6] at H;have c6b0:decide (0≤a1)=true:=decide_eq_true c6;clear c6
    by_cases c7:a1 < (y101.length:Int)
    ·rw [if_pos c7] at H;have c7b0:decide (a1 < (y101.length:Int))=true:=decide_eq_true c7;clear c7;obtain ⟨y104,hy104⟩:∃ y_:List Bool,y_=(y101.set (a1:Int).toNat true):=⟨_,rfl⟩;replace H:(cC.l0 a2 k l0 y104 a1)=some r:=gM hy104 H;have Ny104:=aA.mk hy104;clear hy104;have H':=aA.mk H;clear H
     go_enter Try.func137,Try.ntmps137
     go_wp2_with (first|((with_reducible refine bM (N:=13) rfl ?_);refine Kd.R_make Kd.bool _ 4 rfl (N:=13) rfl 24 _ _ rfl (l0.length:Int) rfl rfl Try.underlying24 (.bool false) 1 mB rfl (by decide) (by omega) false (ok:=fun _=>True) (okp:=fun _=>True) rfl (fun _ hk=>hk) trivial (od) (Nat.le_trans (Nat.mul_le_mul_right _ (od:(l0.length:Int).toNat≤281474976710656)) (by omega)) (Below.refl _ _) (Nat.le_refl _) ?_;intro v102 w9 ho10 hb hg_ hnew_;clear hg_ hnew_;(first|rw [← Ny101.out] at ho10|(simp only [Int.reduceToNat] at ho10;rw [← Ny101.out] at ho10));have A7:=aA.mk (Kd.R_lower ho10 (aM (tb HB)));replace HB:=aA.mk (aE (tb HB) hb);clear hb ho10;have p8:0≤(a1:Int):=od;have q8:(a1:Int) < ((y101.length:Int):Int):=od;obtain ⟨go8,Ac,eo8,gb8,gl8,cl8,HG8⟩:=Kd.R_form A7.out (by omega);(first|cases eo8|(injection eo8 with ea_ en_ ec_;(first|subst ea_|(injection ea_ with ea_;subst ea_));subst ec_;clear en_));have GB8:=aA.mk gb8;have GG8:=aA.mk HG8;clear gb8 gl8 HG8;obtain ⟨hx8_0,hf8_0⟩:=Kd.R_celln false A7.out (a1:Int) p8 q8;replace p8:=eq_true p8;replace q8:=eq_true q8;obtain ⟨hy11_,hz11_⟩:=Kd.R_celln false A7.out (a1:Int) (od) (od);have HP11:=Kd.R_putg A7.out (a1:Int) true)|((with_reducible refine jW (t:=4) (p:=16) rfl ?_);refine iX (t:=4) (p:=16) (v:=?vo_w12) (w1:=(w9.setCell ⟨go8,(a1:Int).toNat,none⟩ (.bool true))) ?hg ?ho ?hn ?hr ?_;(case ho=>rfl);(case hg=>rfl);(case hn=>rfl);(case hr=>first|(go_simp;done)|(go_simp;rfl));intro w12 hw;have hg:w9.grownBy w12 (some go8):=(by rw [hw];exact HP11.2);have hp_:Kd.R Kd.bool 4 w12 w.heap.size (fun _=>True) (.slice (some ⟨go8,0,none⟩) y101.length Ac) y104:=(by rw [hw,Ny104.out];exact HP11.1);clear HP11;replace A7:=aA.mk (hp_);replace HB:=aA.mk ((by rw [hw];exact aZ (HB.out) GB8.out:Below w.heap.size w w12));clear hg hw hp_))
     go_loopg [8] k (fun kq v8 w'=>∃ (A5:List Bool) (A1:Int),v8 = .int .i64 A1∧aA (cC.l0 a2 kq l0 A5 A1=some r)∧aA (kq≤k)∧aA (Kd.R Kd.bool 4 w' w.heap.size (fun _=>True) (.slice (some ⟨go8,0,none⟩) y101.length Ac) A5)∧aA (Below w.heap.size w w'))
     case atStart=>exact ⟨(y104),(a1),(by first|rfl|(simp;done)|(simp [*];done)),H',⟨Nat.le_refl _⟩,⟨ra A7⟩,⟨by exact tb HB⟩⟩
     case round =>
      clear H';obtain ⟨A5,A1,rfl,HA,HK1,A4,HB⟩:=hrel;have hl7_1:=(Kd.R_reads' A4.out).1;rw [hl7_1] at A4
      (try simp only [hl7_1])
      cases gk with
      | zero=>exact absurd HA.out (by simp [cC.l0])
      | succ k1 =>
       have H:=HA.out;clear HA;simp only [cC.l0] at H
       by_cases c13:A1 ≥ 0
       ·rw [if_pos c13] at H;have c13b0:decide (0≤A1)=true:=decide_eq_true c13;clear c13;have HC14:=aA.mk H;clear H
        go_upto_region 6 with (fail)
        go_cut [32] (fun v32 wc=>∃ (kq:Nat) (A9:Bool),v32 = .bool A9∧aA (cC.j1 a2 kq l0 A5 A1 A9=some r)∧aA (kq≤k1)∧aA (Kd.R Kd.bool 4 wc w.heap.size (fun _=>True) (.slice (some ⟨go8,0,none⟩) A5.length Ac) A5)∧aA (Below w.heap.size w wc))
        case first =>
         have H:=HC14.out;clear HC14
         by_cases c15:0≤A1
         ·rw [if_pos c15] at H;have c15b0:decide (0≤A1)=true:=decide_eq_true c15;clear c15;(first|rw [c15b0]|(simp only [aJ,aK];rw [c15b0])|skip)
          by_cases c16:A1 < (A5.length:Int)
          ·rw [if_pos c16] at H;have c16b0:decide (A1 < (A5.length:Int))=true:=decide_eq_true c16;clear c16
           (try (have c16h0:=c16b0;simp only [hl7_1] at c16h0))
           obtain ⟨bq17,hbq17⟩:∃ b_:Bool,b_=(cW false A5 A1):=⟨_,rfl⟩
           replace H:(if bq17=true then ((a2 A1).bind fun A8=>(cC.j1 a2 k1 l0 A5 A1 (!A8))) else (cC.j1 a2 k1 l0 A5 A1 true))=some r:=by rw [← hbq17] at H;exact H
           have Nbq17:=aA.mk hbq17;clear hbq17
           by_cases c18:bq17=true
           ·subst c18
            have H1:((a2 A1).bind fun A8=>(cC.j1 a2 k1 l0 A5 A1 (!A8)))=some r:=by rw [if_pos rfl] at H;exact H
            clear H;have H:=H1;clear H1;replace H:=ob H;obtain ⟨A8,A190,H⟩:=H;replace H:(cC.j1 a2 k1 l0 A5 A1 (!A8))=some r:=H;have A19:=aA.mk A190;clear A190;have H':=aA.mk H;clear H;have p105:0≤(A1:Int):=od;have q105:A1 < (A5.length:Int):=od;obtain ⟨ad105,e105,hx105_0⟩:=Kd.at_bool (Kd.R_reads' A4.out).2.2 A1 p105 q105
            (try rw [← Nbq17.out] at hx105_0)
            obtain rfl:(⟨go8,0,none⟩:Addr)=ad105:=(by injection e105);(first|simp only [add_plain] at hx105_0|simp only [sI] at hx105_0|simp only [Addr.add,Nat.zero_add] at hx105_0|skip);replace p105:=eq_true p105;replace q105:=eq_true q105;go_wp2_with (first|((with_reducible refine pL (q := .tmp 28) rfl ?_);(try (refine cV (by rfl) ?_;dsimp only));refine aAF _ rfl rfl HF2_ (by first|rfl|(go_simp;done)) #[.int .i64 A1] rfl ml ?_;(with_reducible refine (HP2_.out _ (tb HB) A1 A8 A19.out).mono ?_);rintro e w20 ⟨rfl,hb⟩;refine ⟨_,rfl,?_⟩;replace A4:=aA.mk (Kd.R_below (ra A4) hb);replace HB:=aA.mk (aE (tb HB) hb);(try clear hb);(try clear hb2);(try clear hk);(try clear hi)));go_meet
            case rel=>exact ⟨_,(!A8),(by first|rfl|(simp;done)|(simp [*];done)),H',⟨by have:=HK1.out;first|omega|exact Nat.le_refl _⟩,⟨by (try simp only [hl7_1]);(with_reducible repeat (first|apply Kd.R_alloc|apply Kd.R_drewN|apply Kd.R_drew));exact A4.out⟩,⟨by exact tb HB⟩⟩
           ·replace c18:=Bool.eq_false_iff.mpr c18;subst c18
            have H1:(cC.j1 a2 k1 l0 A5 A1 true)=some r:=by rw [if_neg (show ¬ (false=true) by decide)] at H;exact H
            clear H;have H:=H1;clear H1;have H':=aA.mk H;clear H;have p105:0≤(A1:Int):=od;have q105:A1 < (A5.length:Int):=od;obtain ⟨ad105,e105,hx105_0⟩:=Kd.at_bool (Kd.R_reads' A4.out).2.2 A1 p105 q105
            (try rw [← Nbq17.out] at hx105_0)
            obtain rfl:(⟨go8,0,none⟩:Addr)=ad105:=(by injection e105);(first|simp only [add_plain] at hx105_0|simp only [sI] at hx105_0|simp only [Addr.add,Nat.zero_add] at hx105_0|skip);replace p105:=eq_true p105;replace q105:=eq_true q105;go_wp2;go_meet
            case rel=>exact ⟨_,(true),(by first|rfl|(simp;done)|(simp [*];done)),H',⟨by have:=HK1.out;first|omega|exact Nat.le_refl _⟩,⟨by (try simp only [hl7_1]);(with_reducible repeat (first|apply Kd.R_alloc|apply Kd.R_drewN|apply Kd.R_drew));exact A4.out⟩,⟨by exact tb HB⟩⟩
          ·rw [if_neg c16] at H
           (try (have c16h0:=c16b0;simp only [hl7_1] at c16h0))
           exact absurd H (by simp)
         ·rw [if_neg c15] at H;exact absurd H (by simp)
        case rest =>
         clear HC14;obtain ⟨kq,A9,rfl,HA,HJ13,A4,HB⟩:=hcut
         cases kq with
         | zero=>exact absurd HA.out (by simp [cC.j1])
         | succ kj13 =>
          have H:=HA.out;clear HA;simp only [cC.j1] at H
          by_cases c21:A9=true
          ·subst c21
           have H1:(cC.l0 a2 kj13 l0 A5 (wrap64 (A1 - 1)))=some r:=by rw [if_pos rfl] at H;exact H
           clear H;have H:=H1;clear H1;have H':=aA.mk H;clear H;go_wp2
           (try simp only [← hl7_1])
           go_roundg kj13
           case measure=>have:=HK1.out;have:=HJ13.out;omega
           case rel=>exact ⟨(A5),(wrap64 (A1 - 1)),(by first|rfl|(simp;done)|(simp [*];done)),H',⟨by have:=HK1.out;have:=HJ13.out;omega⟩,⟨by (try simp only [hl7_1]);(with_reducible repeat (first|apply Kd.R_alloc|apply Kd.R_drewN|apply Kd.R_drew));exact A4.out⟩,⟨by exact tb HB⟩⟩
          ·replace c21:=Bool.eq_false_iff.mpr c21;subst c21
           have H1:(if 0≤A1 then (if A1 < (l0.length:Int) then ((dB.f kj13 ((aC l0 A1).f0) ((aC l0 A1).f1) ((aC l0 A1).f2) ((aC l0 A1).f3) ((aC l0 A1).f4) ((aC l0 A1).f5)).bind fun A3=>(cC.l1 a2 kj13 l0 A5 A1 A3 (A3.length:Int) 0)) else (none)) else (none))=some r:=by rw [if_neg (show ¬ (false=true) by decide)] at H;exact H
           clear H;have H:=H1;clear H1
           by_cases c22:0≤A1
           ·rw [if_pos c22] at H;have c22b0:decide (0≤A1)=true:=decide_eq_true c22;clear c22
            by_cases c23:A1 < (l0.length:Int)
            ·rw [if_pos c23] at H;have c23b0:decide (A1 < (l0.length:Int))=true:=decide_eq_true c23;clear c23
             (try (have c23h0:=c23b0;simp only [hl7_1] at c23h0))
             replace H:=ob H;obtain ⟨A3,A240,H⟩:=H;replace H:(cC.l1 a2 kj13 l0 A5 A1 A3 (A3.length:Int) 0)=some r:=H;have A24:=aA.mk A240;clear A240;have H':=aA.mk H;clear H;have p107:0≤(A1:Int):=od;have q107:A1 < (l0.length:Int):=od;obtain ⟨ad107,e107,hx107_0,hx107_1,hx107_2,hx107_3,hx107_4,hx107_5⟩:=dD HR0.out A1 p107 q107;cases e107;replace hx107_0:=ct HB hx107_0;replace hx107_1:=ct HB hx107_1;replace hx107_2:=ct HB hx107_2;replace hx107_3:=ct HB hx107_3;replace hx107_4:=ct HB hx107_4;replace hx107_5:=ct HB hx107_5;replace p107:=eq_true p107;replace q107:=eq_true q107;go_wp2_with (first|((with_reducible refine aD (f:=125) rfl ?_);refine aT (some 37) rfl rfl Try.func125 (by kernel_rfl) rfl #[.agg #[.int .i64 ((aC l0 A1).f0),.int .i64 ((aC l0 A1).f1),.int .i64 ((aC l0 A1).f2),.int .i64 ((aC l0 A1).f3),.int .i64 ((aC l0 A1).f4),.int .i64 ((aC l0 A1).f5)]] rfl ml ?_;(with_reducible refine (dB.calls kj13 ((aC l0 A1).f0) ((aC l0 A1).f1) ((aC l0 A1).f2) ((aC l0 A1).f3) ((aC l0 A1).f4) ((aC l0 A1).f5) A3 _ A24.out).mono ?_);rintro e w25 ⟨v109,rfl,ho0,hb⟩;refine ⟨_,rfl,?_⟩;replace A4:=aA.mk (Kd.R_below (ra A4) hb);have Ab:=aA.mk (Kd.R_lower ho0 (aM (tb HB)));replace HB:=aA.mk (aE (tb HB) hb);(try clear hb);(try clear hb2);(try clear hk);(try clear hi);(try clear ho0);obtain ⟨Ao26,co26,eo26⟩:=Kd.R_slice Ab.out;subst eo26))
             go_loopg [39] kj13 (fun kq v39 w'=>∃ (A6:List Bool) (A2:Int),v39 = .int .i64 A2∧aA (cC.l1 a2 kq l0 A6 A1 A3 (A3.length:Int) A2=some r)∧aA (kq≤kj13)∧aA (Kd.R Kd.bool 4 w' w.heap.size (fun _=>True) (.slice (some ⟨go8,0,none⟩) A5.length Ac) A6)∧aA (Kd.R (Kd.int .i64) 3 w' w.heap.size (fun _=>True) (.slice Ao26 A3.length co26) A3)∧aA (Below w.heap.size w w'))
             case atStart=>exact ⟨(A5),(0),(by first|rfl|(simp;done)|(simp [*];done)),H',⟨Nat.le_refl _⟩,⟨by (try simp only [hl7_1]);(with_reducible repeat (first|apply Kd.R_alloc|apply Kd.R_drewN|apply Kd.R_drew));exact A4.out⟩,⟨by (try simp only [hl7_1]);(with_reducible repeat (first|apply Kd.R_alloc|apply Kd.R_drewN|apply Kd.R_drew));exact Ab.out⟩,⟨by exact tb HB⟩⟩
             case round =>
              clear H';obtain ⟨A6,A2,rfl,HA,HK3,A4,Aa,HB⟩:=hrel;have hl7_3:=(Kd.R_reads' A4.out).1;rw [hl7_3] at A4
              (try simp only [hl7_3])
              (try simp only [hl7_3] at Aa)
              cases gk with
              | zero=>exact absurd HA.out (by simp [cC.l1])
              | succ k3 =>
               have H:=HA.out;clear HA;simp only [cC.l1] at H
               by_cases c27:A2 < (A3.length:Int)
               ·rw [if_pos c27] at H;have c27b0:decide (A2 < (A3.length:Int))=true:=decide_eq_true c27;clear c27
                (try (have c27h0:=c27b0;simp only [hl7_1,hl7_3] at c27h0))
                by_cases c28:0≤A2
                ·rw [if_pos c28] at H;have c28b0:decide (0≤A2)=true:=decide_eq_true c28;clear c28
                 by_cases c29:A2 < (A3.length:Int)
                 ·rw [if_pos c29] at H;have c29b0:decide (A2 < (A3.length:Int))=true:=decide_eq_true c29;clear c29
                  (try (have c29h0:=c29b0;simp only [hl7_1,hl7_3] at c29h0))
                  by_cases c30:0≤(rd A3 A2)
                  ·rw [if_pos c30] at H;have c30b0:decide (0≤(rd A3 A2))=true:=decide_eq_true c30;clear c30
                   by_cases c31:(rd A3 A2) < (A6.length:Int)
                   ·rw [if_pos c31] at H;have c31b0:decide ((rd A3 A2) < (A6.length:Int))=true:=decide_eq_true c31;clear c31
                    (try (have c31h0:=c31b0;simp only [hl7_1,hl7_3] at c31h0))
                    obtain ⟨y112,hy112⟩:∃ y_:List Bool,y_=(A6.set ((rd A3 A2):Int).toNat true):=⟨_,rfl⟩;replace H:(cC.l1 a2 k3 l0 y112 A1 A3 (A3.length:Int) (wrap64 (A2 + 1)))=some r:=gM hy112 H;have Ny112:=aA.mk hy112;clear hy112;have H':=aA.mk H;clear H;have p111:0≤(A2:Int):=od;have q111:A2 < (A3.length:Int):=od;obtain ⟨ad111,e111,hx111_0⟩:=Kd.at_int (Kd.R_reads' Aa.out).2.2 A2 p111 q111;cases e111;replace p111:=eq_true p111;replace q111:=eq_true q111;have p32:0≤((rd A3 A2):Int):=od;have q32:((rd A3 A2):Int) < ((A6.length:Int):Int):=od;obtain ⟨hx32_0,hf32_0⟩:=Kd.R_celln false A4.out ((rd A3 A2):Int) p32 q32;replace p32:=eq_true p32;replace q32:=eq_true q32;have HP33:=Kd.R_putg A4.out ((rd A3 A2):Int) true;go_wp2_with (first|((with_reducible refine jW (t:=4) (p:=45) rfl ?_);refine iX (t:=4) (p:=45) (v:=?vo_w34) (w1:=(wr.setCell ⟨go8,((rd A3 A2):Int).toNat,none⟩ (.bool true))) ?hg ?ho ?hn ?hr ?_;(case ho=>rfl);(case hg=>rfl);(case hn=>rfl);(case hr=>first|(go_simp;done)|(go_simp;rfl));intro w34 hw;have hg:wr.grownBy w34 (some go8):=(by rw [hw];exact HP33.2);have hp_:Kd.R Kd.bool 4 w34 w.heap.size (fun _=>True) (.slice (some ⟨go8,0,none⟩) A6.length Ac) y112:=(by rw [hw,Ny112.out];exact HP33.1);clear HP33;replace Aa:=aA.mk (Kd.R_over' (v:=(.slice (some ⟨go8,0,none⟩) A6.length Ac)) (ra Aa) (Kd.R_typed A4.out) (by decide) hg);replace A4:=aA.mk (hp_);replace HB:=aA.mk ((by rw [hw];exact aZ (HB.out) GB8.out:Below w.heap.size w w34));clear hg hw hp_))
                    (try simp only [← hl7_3])
                    go_roundg k3
                    case measure=>have:=HK1.out;have:=HJ13.out;have:=HK3.out;omega
                    case rel=>exact ⟨(y112),(wrap64 (A2 + 1)),(by first|rfl|(simp;done)|(simp [*];done)),H',⟨by have:=HK1.out;have:=HJ13.out;have:=HK3.out;omega⟩,⟨by (try simp only [hl7_1]);(try simp only [hl7_3]);(with_reducible repeat (first|apply Kd.R_alloc|apply Kd.R_drewN|apply Kd.R_drew));exact A4.out⟩,⟨by (try simp only [hl7_1]);(try simp only [hl7_3]);(with_reducible repeat (first|apply Kd.R_alloc|apply Kd.R_drewN|apply Kd.R_drew));exact Aa.out⟩,⟨by exact tb HB⟩⟩
                   ·rw [if_neg c31] at H
                    (try (have c31h0:=c31b0;simp only [hl7_1,hl7_3] at c31h0))
                    exact absurd H (by simp)
                  ·rw [if_neg c30] at H;exact absurd H (by simp)
                 ·rw [if_neg c29] at H
                  (try (have c29h0:=c29b0;simp only [hl7_1,hl7_3] at c29h0))
                  exact absurd H (by simp)
                ·rw [if_neg c28] at H;exact absurd H (by simp)
               ·rw [if_neg c27] at H;have c27b0:decide (A2 < (A3.length:Int))=false:=decide_eq_false c27;clear c27
                (try (have c27h0:=c27b0;simp only [hl7_1,hl7_3] at c27h0))
                have H':=aA.mk H;clear H;go_wp2
                (try simp only [← hl7_1,← hl7_3])
                go_roundg k3
                case measure=>have:=HK1.out;have:=HJ13.out;have:=HK3.out;omega
                case rel=>exact ⟨(A6),(wrap64 (A1 - 1)),(by first|rfl|(simp;done)|(simp [*];done)),H',⟨by have:=HK1.out;have:=HJ13.out;have:=HK3.out;omega⟩,⟨by (try simp only [hl7_1]);(try simp only [hl7_3]);(with_reducible repeat (first|apply Kd.R_alloc|apply Kd.R_drewN|apply Kd.R_drew));exact A4.out⟩,⟨by exact tb HB⟩⟩
            ·rw [if_neg c23] at H
             (try (have c23h0:=c23b0;simp only [hl7_1] at c23h0))
             exact absurd H (by simp)
           ·rw [if_neg c22] at H;exact absurd H (by simp)
       ·rw [if_neg c13] at H;have c13b0:decide (0≤A1)=false:=decide_eq_false c13;clear c13;obtain rfl:=os H;go_wp2;go_ret;exact ⟨_,er,ra A4,tb HB⟩
    ·rw [if_neg c7] at H;exact absurd H (by simp)
   ·rw [if_neg c6] at H;exact absurd H (by simp)
  ·rw [if_neg c5] at H;exact absurd H (by simp)
 ·rw [if_neg c4] at H;exact absurd H (by simp)
end Go.Proofs.Ythipjoioicmcnaa.G
namespace Go.Proofs.Ythipjoioicmcnaa.G
open Go.RowKit Go.Proofs.YthipjoioicmcnaaW.PrintWords Go.Proofs.YthipjoioicmcnaaW.PrintLast Go.Proofs.YthipjoioicmcnaaW.PrintMore Go.Proofs.Ythipjoioicmcnaa.Sh Go.Proofs.Ythipjoioicmcnaa.Fv Go.Proofs.Ythipjoioicmcnaa.Fv
attribute [local go_sem] eS eR fI fJ eI eJ eU eT
theorem reached1.calls (x:Int) (w:World):Calls Try.prog 138 (#[.int .i64 x] ++ #[]) w fun e w'=>e = .returned (.bool true)∧Below w.heap.size w w':=by
 show Calls Try.prog 138 #[.int .i64 x] w _
 have HX:=aA.mk (Below.refl w.heap.size w)
 go_enter Try.func138,Try.ntmps138
 go_wp2;go_ret;exact ⟨rfl,HX.out⟩
def fB.f (k:Nat) (l0:List (bN)):Option (List Bool):=cC.f k l0 (wrap64 ((l0.length:Int) - 1)) (fun _=>some true)
theorem fB.calls (k:Nat) (A0:Option Addr) (c0:Nat) (l0:List (bN)) (r:List Bool) (w:World) (hr0:Kd.C eV w A0 l0.length l0) (hc0:l0.length≤c0) (h:fB.f k l0=some r) :
  Calls Try.prog 122 #[.slice A0 l0.length c0] w fun e w'=>∃ v0_:Value,e = .returned (v0_)∧Kd.R Kd.bool 4 w' w.heap.size (fun _=>True) v0_ r∧Below w.heap.size w w':=by
 have HR0:=aA.mk hr0;have HC0:=aA.mk hc0;have HF:=aA.mk h;have hf:iM Try.prog 138:=iM.of Try.func138 (by kernel_rfl) (by kernel_rfl);clear hr0 hc0 h
 go_enter Try.func122,Try.ntmps122
 go_wp2_with (first|fail);refine (cC.calls k A0 c0 l0 (wrap64 ((l0.length:Int) - 1)) 138 #[] (fun _=>some true) r _ HR0.out HC0.out hf (fun W_ _ x_ r_ h_=>by obtain rfl:=Option.some.inj h_;exact reached1.calls x_ W_) HF.out).mono ?_;rintro e w7 ⟨v_,rfl,ho,hb⟩;have HO:=aA.mk ho;have HB:=aA.mk hb;clear ho hb;go_wp2;go_ret;exact ⟨_,rfl,HO.out,HB.out⟩
end Go.Proofs.Ythipjoioicmcnaa.G
