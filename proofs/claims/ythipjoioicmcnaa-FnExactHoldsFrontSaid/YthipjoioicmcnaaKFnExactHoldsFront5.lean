-- texts of this session, merged by a program of it (wip/gen/pack.py)
import Derived.Test.YthipjoioicmcnaaKFnExactHoldsFront1
import Derived.Test.YthipjoioicmcnaaKFnExactHoldsFront2
import Derived.Test.YthipjoioicmcnaaKFnExactHoldsFront4
import Derived.Test.YthipjoioicmcnaaKFnExactHoldsFront3
namespace Go.Proofs.Ythipjoioicmcnaa.G
open Go.Proofs.Ythipjoioicmcnaa.Sh
open Go.RowKit Go.Proofs.YthipjoioicmcnaaW.PrintWords Go.Proofs.YthipjoioicmcnaaW.PrintLast Go.Proofs.YthipjoioicmcnaaW.PrintMore
attribute [local go_sem] max2_int min2_int max_two min_two max_three min_three max_four min_four
set_option linter.unusedVariables false
set_option linter.unusedSimpArgs false
section
variable {W:World} {g:Nat} {t:TypeId} {ws:List Int}
theorem arr_cell (h:W.heap[g]? = some (.cells (nums .i64 ws).toArray t (0,0))) (i:Int) (h0:0≤i) (h1:i < (ws.length:Int)):W.cell? ⟨g,i.toNat,none⟩=some (.int .i64 (rd ws i)):=by
 rw [blk_cell h]
 simp [nums,rd,List.getD_eq_getElem?_getD,List.getElem?_eq_getElem (show i.toNat < ws.length by omega)]
theorem arr_put (h:W.heap[g]? = some (.cells (nums .i64 ws).toArray t (0,0))) (j:Nat) (v:Int):(W.setCell ⟨g,j,none⟩ (.int .i64 v)).heap[g]? = some (.cells (nums .i64 (ws.set j v)).toArray t (0,0)) :=
 blk_put h j _ (by simp [nums,List.map_set])
end
def foW:Nat→List S66→Int→List Int→Option (Option (List Int))
 | 0,_,_,_=>none
 | k + 1,q,i,ws=>if i < (q.length:Int) then (if 0≤i then (impl_isVar.f (rd_T66 q i).f1).bind fun t=>if t=true then (impl_isWidth.f (rd_T66 q i).f2).bind fun t=>if t=true then
   (if 0≤(rd_T66 q i).f1∧(rd_T66 q i).f1 < 8 then (if 0 < rd ws (rd_T66 q i).f1 then some none else foW k q (wrap64 (i + 1)) (ws.set (rd_T66 q i).f1.toNat (rd_T66 q i).f2)) else none) else some none else some none else none) else some (some ws)
def foN:Nat→List S99→List Bool→List Int→Int→Option Bool
 | 0,_,_,_,_=>none
 | k + 1,l,ms,ws,i=>if i < (l.length:Int) then (if 0≤i then (impl_isQuant.f (rd_T99 l i).f0 (rd_T99 l i).f1 (rd_T99 l i).f2 (rd_T99 l i).f3 (rd_T99 l i).f4 (rd_T99 l i).f5).bind fun t=>if t=true then some false else
   (if i < (ms.length:Int) then (if rdOf false ms i=true then (if (rd_T99 l i).f0=1 then (if 0≤(rd_T99 l i).f2∧(rd_T99 l i).f2 < 8 then (if (rd_T99 l i).f1=rd ws (rd_T99 l i).f2 then foN k l ms ws (wrap64 (i + 1)) else some false) else none) else foN k l ms ws (wrap64 (i + 1))) else foN k l ms ws (wrap64 (i + 1))) else none) else none) else some true
def impl_FrontOk.f (k:Nat) (l0:List (S66)) (l1:List (S99)):Option Bool :=
 (foW k l0 0 (List.replicate 8 0)).bind fun ws=>match ws with
 | none=>some false
 | some ws=>(impl_TermOk.f k l1).bind fun t=>if t=true then (if 0≤wrap64 ((l1.length:Int) - 1)∧wrap64 ((l1.length:Int) - 1) < (l1.length:Int) then (if (rd_T99 l1 (wrap64 ((l1.length:Int) - 1))).f1=1 then (impl_reached.f k l1).bind fun ms=>foN k l1 ms ws 0 else some false) else none) else some false
set_option maxHeartbeats 8000000 in
set_option maxRecDepth 100000 in
theorem impl_FrontOk.calls (k:Nat) (A0:Option Addr) (c0:Nat) (l0:List (S66)) (A1:Option Addr) (c1:Nat) (l1:List (S99)) (r:Bool) (w:World) (hr0:Kd.C k66 w A0 l0.length l0) (hc0:l0.length≤c0) (hr1:Kd.C k99 w A1 l1.length l1) (hc1:l1.length≤c1) (h:impl_FrontOk.f k l0 l1=some r) :
  Calls Try.prog 87 #[.slice A0 l0.length c0,.slice A1 l1.length c1] w fun e w'=>e = .returned (.bool r)∧Below w.heap.size w w':=by
 have HR0:=Aside0.mk hr0;have HC0:=Aside0.mk hc0;have HR1:=Aside0.mk hr1;have HC1:=Aside0.mk hc1;clear hr0 hc0 hr1 hc1;unfold impl_FrontOk.f at h;obtain ⟨wso,hw,h⟩:=Option.bind_eq_some_iff.1 h;have HFW:=Aside0.mk hw;have HF:=Aside0.mk h;clear hw h
 go_enter Try.func87,Try.ntmps87
 go_wp2_with (first|((with_reducible refine gate_dst (N:=5) rfl ?_);refine bx (N:=5) (cs:=#[.int .i64 0,.int .i64 0,.int .i64 0,.int .i64 0,.int .i64 0,.int .i64 0,.int .i64 0,.int .i64 0]) (t:=103) ?_;intro ga hg w1 hbox hb;have BA0:=Aside0.mk hbox;have HX0:=Aside0.mk hb;have GA:=Aside0.mk (show w.heap.size≤ga by rw [hg];exact Nat.le_refl _);have hz0:w1.cell? ⟨ga,0,none⟩=some (.int .i64 0):=(blk_cell BA0.out 0).trans rfl;have hfz0:=blk_frozen BA0.out 0;have hz1:w1.cell? ⟨ga,1,none⟩=some (.int .i64 0):=(blk_cell BA0.out 1).trans rfl;have hfz1:=blk_frozen BA0.out 1;have hz2:w1.cell? ⟨ga,2,none⟩=some (.int .i64 0):=(blk_cell BA0.out 2).trans rfl;have hfz2:=blk_frozen BA0.out 2;have hz3:w1.cell? ⟨ga,3,none⟩=some (.int .i64 0):=(blk_cell BA0.out 3).trans rfl;have hfz3:=blk_frozen BA0.out 3;have hz4:w1.cell? ⟨ga,4,none⟩=some (.int .i64 0):=(blk_cell BA0.out 4).trans rfl;have hfz4:=blk_frozen BA0.out 4;have hz5:w1.cell? ⟨ga,5,none⟩=some (.int .i64 0):=(blk_cell BA0.out 5).trans rfl;have hfz5:=blk_frozen BA0.out 5;have hz6:w1.cell? ⟨ga,6,none⟩=some (.int .i64 0):=(blk_cell BA0.out 6).trans rfl;have hfz6:=blk_frozen BA0.out 6;have hz7:w1.cell? ⟨ga,7,none⟩=some (.int .i64 0):=(blk_cell BA0.out 7).trans rfl;have hfz7:=blk_frozen BA0.out 7;clear hg hbox hb));have BA8:Aside0 (((((((((w1.setCell ⟨ga,0,none⟩ (.int .i64 0)).setCell ⟨ga,1,none⟩ (.int .i64 0)).setCell ⟨ga,2,none⟩ (.int .i64 0)).setCell ⟨ga,3,none⟩ (.int .i64 0)).setCell ⟨ga,4,none⟩ (.int .i64 0)).setCell ⟨ga,5,none⟩ (.int .i64 0)).setCell ⟨ga,6,none⟩ (.int .i64 0)).setCell ⟨ga,7,none⟩ (.int .i64 0)).heap[ga]? = some (.cells (nums .i64 (List.replicate 8 0)).toArray 103 (0,0))):=⟨blk_put (cs:=#[.int .i64 0,.int .i64 0,.int .i64 0,.int .i64 0,.int .i64 0,.int .i64 0,.int .i64 0,.int .i64 0]) (blk_put (cs:=#[.int .i64 0,.int .i64 0,.int .i64 0,.int .i64 0,.int .i64 0,.int .i64 0,.int .i64 0,.int .i64 0]) (blk_put (cs:=#[.int .i64 0,.int .i64 0,.int .i64 0,.int .i64 0,.int .i64 0,.int .i64 0,.int .i64 0,.int .i64 0]) (blk_put (cs:=#[.int .i64 0,.int .i64 0,.int .i64 0,.int .i64 0,.int .i64 0,.int .i64 0,.int .i64 0,.int .i64 0]) (blk_put (cs:=#[.int .i64 0,.int .i64 0,.int .i64 0,.int .i64 0,.int .i64 0,.int .i64 0,.int .i64 0,.int .i64 0]) (blk_put (cs:=#[.int .i64 0,.int .i64 0,.int .i64 0,.int .i64 0,.int .i64 0,.int .i64 0,.int .i64 0,.int .i64 0]) (blk_put (cs:=#[.int .i64 0,.int .i64 0,.int .i64 0,.int .i64 0,.int .i64 0,.int .i64 0,.int .i64 0,.int .i64 0]) (blk_put (cs:=#[.int .i64 0,.int .i64 0,.int .i64 0,.int .i64 0,.int .i64 0,.int .i64 0,.int .i64 0,.int .i64 0]) (BA0.out) 0 _ rfl) 1 _ rfl) 2 _ rfl) 3 _ rfl) 4 _ rfl) 5 _ rfl) 6 _ rfl) 7 _ rfl⟩;have HX8:Aside0 (Below w.heap.size w ((((((((w1.setCell ⟨ga,0,none⟩ (.int .i64 0)).setCell ⟨ga,1,none⟩ (.int .i64 0)).setCell ⟨ga,2,none⟩ (.int .i64 0)).setCell ⟨ga,3,none⟩ (.int .i64 0)).setCell ⟨ga,4,none⟩ (.int .i64 0)).setCell ⟨ga,5,none⟩ (.int .i64 0)).setCell ⟨ga,6,none⟩ (.int .i64 0)).setCell ⟨ga,7,none⟩ (.int .i64 0))):=⟨below_set (below_set (below_set (below_set (below_set (below_set (below_set (below_set (HX0.out) GA.out) GA.out) GA.out) GA.out) GA.out) GA.out) GA.out) GA.out⟩;clear hz0 hfz0 hz1 hfz1 hz2 hfz2 hz3 hfz3 hz4 hfz4 hz5 hfz5 hz6 hfz6 hz7 hfz7;generalize ((((((((w1.setCell ⟨ga,0,none⟩ (.int .i64 0)).setCell ⟨ga,1,none⟩ (.int .i64 0)).setCell ⟨ga,2,none⟩ (.int .i64 0)).setCell ⟨ga,3,none⟩ (.int .i64 0)).setCell ⟨ga,4,none⟩ (.int .i64 0)).setCell ⟨ga,5,none⟩ (.int .i64 0)).setCell ⟨ga,6,none⟩ (.int .i64 0)).setCell ⟨ga,7,none⟩ (.int .i64 0))=w8 at BA8 HX8 ⊢;clear BA0 HX0
 go_loopg [14] k (fun kq v14 wr=>∃ (i:Int) (ws:List Int),v14 = .int .i64 i∧Aside0 (foW kq l0 i ws=some wso)∧Aside0 (kq≤k)∧Aside0 (ws.length=8)∧Aside0 (wr.heap[ga]? = some (.cells (nums .i64 ws).toArray 103 (0,0)))∧Aside0 (Below w.heap.size w wr))
 case atStart=>exact ⟨0,_,rfl,HFW,⟨Nat.le_refl _⟩,⟨rfl⟩,BA8,HX8⟩
 case round =>
  clear HFW BA8 HX8;obtain ⟨i,ws,rfl,HA,HK1,HL,BA,HB⟩:=hrel
  cases gk with
  | zero=>exact absurd HA.out (by simp [foW])
  | succ k1 =>
   have H:=HA.out;clear HA;simp only [foW] at H
   by_cases c3:i < (l0.length:Int)
   ·rw [if_pos c3] at H
    by_cases c4:0≤i
    case neg=>rw [if_neg c4] at H;cases H
    rw [if_pos c4] at H;have d3:decide (i < (l0.length:Int))=true:=decide_eq_true c3;have d4:decide (0≤i)=true:=decide_eq_true c4;obtain ⟨ad,e_,hx0,hx1,hx2⟩:=at_T66 HR0.out i c4 c3;cases e_;replace hx0:=ct HB hx0;replace hx1:=ct HB hx1;replace hx2:=ct HB hx2;replace c3:=eq_true c3;replace c4:=eq_true c4;obtain ⟨t,ht,H⟩:=Option.bind_eq_some_iff.1 H;have HV:=Aside0.mk ht;clear ht
    cases t with
    | false =>
     rw [if_neg (by decide)] at H;obtain rfl:=os H;obtain rfl:false=r:=Option.some.inj HF.out;go_wp2_with (first|(go_at_call 120;(try simp only [i64_w,i32_w]);(with_reducible refine (impl_isVar.calls (rd_T66 l0 i).f1 false _ HV.out).mono ?_);rintro e w' ⟨rfl,⟨nd,rfl⟩⟩));go_ret;exact ⟨rfl,by repeat (first|exact HB.out|apply pw_below_drewN|apply below_alloc)⟩
    | true =>
    rw [if_pos rfl] at H;obtain ⟨t,ht,H⟩:=Option.bind_eq_some_iff.1 H;have HW:=Aside0.mk ht;clear ht
    cases t with
    | false =>
     rw [if_neg (by decide)] at H;obtain rfl:=os H;obtain rfl:false=r:=Option.some.inj HF.out;go_wp2_with (first|(go_at_call 120;(try simp only [i64_w,i32_w]);(with_reducible refine (impl_isVar.calls (rd_T66 l0 i).f1 true _ HV.out).mono ?_);rintro e w' ⟨rfl,⟨nd,rfl⟩⟩)|(go_at_call 119;(try simp only [i64_w,i32_w]);(with_reducible refine (impl_isWidth.calls (rd_T66 l0 i).f2 false _ HW.out).mono ?_);rintro e w' ⟨rfl,⟨nd,rfl⟩⟩));go_ret;exact ⟨rfl,by repeat (first|exact HB.out|apply pw_below_drewN|apply below_alloc)⟩
    | true =>
    rw [if_pos rfl] at H
    by_cases c5:0≤(rd_T66 l0 i).f1∧(rd_T66 l0 i).f1 < 8
    case neg=>rw [if_neg c5] at H;cases H
    rw [if_pos c5] at H
    have hcw:∀ o,(wr.alloc o).cell? ⟨ga,(rd_T66 l0 i).f1.toNat,none⟩=some (.int .i64 (rd ws (rd_T66 l0 i).f1)):=fun o=>arr_cell (blk_alloc BA.out o) _ c5.1 (by have:=HL.out;omega)
    have hfw:∀ o,(wr.alloc o).frozen? ⟨ga,(rd_T66 l0 i).f1.toNat,none⟩=false:=fun o=>blk_frozen (blk_alloc BA.out o) _
    obtain ⟨c5,c6⟩:=c5;replace c5:=eq_true c5;replace c6:=eq_true c6
    by_cases c7:0 < rd ws (rd_T66 l0 i).f1
    ·rw [if_pos c7] at H;obtain rfl:=os H;obtain rfl:false=r:=Option.some.inj HF.out;have d7:decide (0 < rd ws (rd_T66 l0 i).f1)=true:=decide_eq_true c7;clear c7 H;go_wp2_with (first|(go_at_call 120;(try simp only [i64_w,i32_w]);(with_reducible refine (impl_isVar.calls (rd_T66 l0 i).f1 true _ HV.out).mono ?_);rintro e w' ⟨rfl,⟨nd,rfl⟩⟩)|(go_at_call 119;(try simp only [i64_w,i32_w]);(with_reducible refine (impl_isWidth.calls (rd_T66 l0 i).f2 true _ HW.out).mono ?_);rintro e w' ⟨rfl,⟨nd,rfl⟩⟩));go_ret;exact ⟨rfl,by repeat (first|exact HB.out|apply pw_below_drewN|apply below_alloc)⟩
    ·rw [if_neg c7] at H;have d7:decide (0 < rd ws (rd_T66 l0 i).f1)=false:=decide_eq_false c7;have H':=Aside0.mk H;clear c7 H;go_wp2_with (first|(go_at_call 120;(try simp only [i64_w,i32_w]);(with_reducible refine (impl_isVar.calls (rd_T66 l0 i).f1 true _ HV.out).mono ?_);rintro e w' ⟨rfl,⟨nd,rfl⟩⟩)|(go_at_call 119;(try simp only [i64_w,i32_w]);(with_reducible refine (impl_isWidth.calls (rd_T66 l0 i).f2 true _ HW.out).mono ?_);rintro e w' ⟨rfl,⟨nd,rfl⟩⟩));go_roundg k1
     case measure=>have:=HK1.out;omega
     case rel=>exact ⟨wrap64 (i + 1),_,rfl,H',⟨by have:=HK1.out;omega⟩,⟨by rw [List.length_set];exact HL.out⟩,⟨arr_put (blk_drewN (blk_alloc BA.out _) _) _ _⟩,⟨below_set (pw_below_drewN (below_alloc HB.out _) _) GA.out⟩⟩
   ·rw [if_neg c3] at H;have d3:decide (i < (l0.length:Int))=false:=decide_eq_false c3;clear c3;obtain rfl:=os H;clear H;have hf:((impl_TermOk.f k l1).bind fun t=>if t=true then (if 0≤wrap64 ((l1.length:Int) - 1)∧wrap64 ((l1.length:Int) - 1) < (l1.length:Int) then (if (rd_T99 l1 (wrap64 ((l1.length:Int) - 1))).f1=1 then (impl_reached.f k l1).bind fun ms=>foN k l1 ms ws 0 else some false) else none) else some false)=some r:=HF.out;clear HF;obtain ⟨t,ht,hf⟩:=Option.bind_eq_some_iff.1 hf;have HT:=Aside0.mk ht;clear ht
    cases t with
    | false =>
     rw [if_neg (by decide)] at hf;obtain rfl:=Option.some.inj hf;clear hf;go_wp2_with (first|((with_reducible refine gate_callee (f:=121) rfl ?_);(try (refine gate_guard (by rfl) ?_;dsimp only));refine goesL_ (some 42) rfl rfl Try.func121 (by kernel_rfl) rfl #[.slice A1 l1.length c1] rfl ml ?_;(with_reducible refine (impl_TermOk.calls k A1 c1 l1 false _ (Kd.C_below HR1.out HB.out) HC1.out HT.out).mono ?_);rintro e w2 ⟨rfl,hb⟩;refine ⟨_,rfl,?_⟩;have HBb:=Aside0.mk (below_step HB.out hb);have BAb:=Aside0.mk (blk_below BA.out hb);clear hb));go_ret;exact ⟨rfl,HBb.out⟩
    | true =>
    rw [if_pos rfl] at hf
    by_cases c8:0≤wrap64 ((l1.length:Int) - 1)∧wrap64 ((l1.length:Int) - 1) < (l1.length:Int)
    case neg=>rw [if_neg c8] at hf;cases hf
    rw [if_pos c8] at hf;obtain ⟨ad,e_,hx0,hx1,hx2⟩:=at_T99 HR1.out _ c8.1 c8.2;cases e_;clear hx0 hx2;obtain ⟨c8,c9⟩:=c8;have d8:decide (0≤wrap64 ((l1.length:Int) - 1))=true:=decide_eq_true c8;have d9:decide (wrap64 ((l1.length:Int) - 1) < (l1.length:Int))=true:=decide_eq_true c9;replace c8:=eq_true c8;replace c9:=eq_true c9
    by_cases c10:(rd_T99 l1 (wrap64 ((l1.length:Int) - 1))).f1=1
    case neg =>
     rw [if_neg c10] at hf;obtain rfl:=Option.some.inj hf;clear hf;have d10:((rd_T99 l1 (wrap64 ((l1.length:Int) - 1))).f1 != 1)=true:=bne_iff_ne.2 c10;clear c10;go_wp2_with (first|((with_reducible refine gate_callee (f:=121) rfl ?_);(try (refine gate_guard (by rfl) ?_;dsimp only));refine goesL_ (some 42) rfl rfl Try.func121 (by kernel_rfl) rfl #[.slice (some ad) l1.length c1] rfl ml ?_;(with_reducible refine (impl_TermOk.calls k (some ad) c1 l1 true _ (Kd.C_below HR1.out HB.out) HC1.out HT.out).mono ?_);rintro e w2 ⟨rfl,hb⟩;refine ⟨_,rfl,?_⟩;have HBb:=Aside0.mk (below_step HB.out hb);have BAb:=Aside0.mk (blk_below BA.out hb);clear hb;have hx1b:=ct HBb hx1));go_ret;exact ⟨rfl,HBb.out⟩
    rw [if_pos c10] at hf;have d10:((rd_T99 l1 (wrap64 ((l1.length:Int) - 1))).f1 != 1)=false:=bne_eq_false_iff_eq.2 c10;clear c10;obtain ⟨ms,hm,hf⟩:=Option.bind_eq_some_iff.1 hf;have HM:=Aside0.mk hm;have HFN:=Aside0.mk hf;clear hm hf;go_wp2_with (first|((with_reducible refine gate_callee (f:=121) rfl ?_);(try (refine gate_guard (by rfl) ?_;dsimp only));refine goesL_ (some 42) rfl rfl Try.func121 (by kernel_rfl) rfl #[.slice (some ad) l1.length c1] rfl ml ?_;(with_reducible refine (impl_TermOk.calls k (some ad) c1 l1 true _ (Kd.C_below HR1.out HB.out) HC1.out HT.out).mono ?_);rintro e w2 ⟨rfl,hb⟩;refine ⟨_,rfl,?_⟩;have HBb:=Aside0.mk (below_step HB.out hb);have BAb:=Aside0.mk (blk_below BA.out hb);clear hb;have hx1b:=ct HBb hx1)|((with_reducible refine gate_callee (f:=122) rfl ?_);(try (refine gate_guard (by rfl) ?_;dsimp only));refine goesL_ (some 55) rfl rfl Try.func122 (by kernel_rfl) rfl #[.slice (some ad) l1.length c1] rfl ml ?_;(with_reducible refine (impl_reached.calls k (some ad) c1 l1 ms _ (Kd.C_below HR1.out HBb.out) HC1.out HM.out).mono ?_);rintro e w3 ⟨v_,rfl,ho,hb⟩;refine ⟨_,rfl,?_⟩;have HMR:=Aside0.mk (Kd.R_lower ho HBb.out.size);have HBc:=Aside0.mk (below_step HBb.out hb);have BAc:=Aside0.mk (blk_below BAb.out hb);clear ho hb hx1b HBb BAb;obtain ⟨Am,cm,em⟩:=Kd.R_slice HMR.out;subst em));clear c8 c9 d8 d9 d10 hx1 d3
    go_loopg [58] k (fun kq v58 wr=>∃ (i:Int),v58 = .int .i64 i∧Aside0 (foN kq l1 ms ws i=some r)∧Aside0 (kq≤k)∧Aside0 (wr.heap[ga]? = some (.cells (nums .i64 ws).toArray 103 (0,0)))∧Aside0 (Kd.R Kd.bool 4 wr w.heap.size (fun _=>True) (.slice Am ms.length cm) ms)∧Aside0 (Below w.heap.size w wr))
    case atStart=>exact ⟨0,rfl,HFN,⟨Nat.le_refl _⟩,BAc,HMR,HBc⟩
    case round =>
     clear HFN BAc HMR HBc HM HT HB HK1 BA;obtain ⟨i,rfl,HA,HK1,BA,HM,HB⟩:=hrel
     cases gk with
     | zero=>exact absurd HA.out (by simp [foN])
     | succ k2 =>
      have H:=HA.out;clear HA;simp only [foN] at H
      by_cases c3:i < (l1.length:Int)
      ·rw [if_pos c3] at H
       by_cases c4:0≤i
       case neg=>rw [if_neg c4] at H;cases H
       rw [if_pos c4] at H;obtain ⟨ad2,e_,hx0,hx1,hx2,hx3,hx4,hx5⟩:=at_T99 HR1.out i c4 c3
       obtain rfl:ad=ad2:=by injection e_
       clear e_;replace hx0:=ct HB hx0;replace hx1:=ct HB hx1;replace hx2:=ct HB hx2;replace hx3:=ct HB hx3;replace hx4:=ct HB hx4;replace hx5:=ct HB hx5;have d3:decide (i < (l1.length:Int))=true:=decide_eq_true c3;have d4:decide (0≤i)=true:=decide_eq_true c4;have C4:=Aside0.mk c4;replace c3:=eq_true c3;replace c4:=eq_true c4;obtain ⟨t,ht,H⟩:=Option.bind_eq_some_iff.1 H;have HQ:=Aside0.mk ht;clear ht
       cases t with
       | true =>
        rw [if_pos rfl] at H;obtain rfl:=os H;clear H;go_wp2_with (first|((with_reducible refine gate_dst (N:=10) rfl ?_);refine bx (N:=10) (cs:=#[.int .i64 0,.int .i64 0,.int .i64 0,.int .i64 0,.int .i64 0,.int .i64 0]) (t:=99) ?_;intro gn hg w4 hbox hb;have BN0:=Aside0.mk hbox;have HX0:=Aside0.mk hb;have GN:=Aside0.mk (show wr.heap.size≤gn by rw [hg];exact Nat.le_refl _);have hz0:w4.cell? ⟨gn,0,none⟩=some (.int .i64 0):=(blk_cell BN0.out 0).trans rfl;have hfz0:=blk_frozen BN0.out 0;have hz1:w4.cell? ⟨gn,1,none⟩=some (.int .i64 0):=(blk_cell BN0.out 1).trans rfl;have hfz1:=blk_frozen BN0.out 1;have hz2:w4.cell? ⟨gn,2,none⟩=some (.int .i64 0):=(blk_cell BN0.out 2).trans rfl;have hfz2:=blk_frozen BN0.out 2;have hz3:w4.cell? ⟨gn,3,none⟩=some (.int .i64 0):=(blk_cell BN0.out 3).trans rfl;have hfz3:=blk_frozen BN0.out 3;have hz4:w4.cell? ⟨gn,4,none⟩=some (.int .i64 0):=(blk_cell BN0.out 4).trans rfl;have hfz4:=blk_frozen BN0.out 4;have hz5:w4.cell? ⟨gn,5,none⟩=some (.int .i64 0):=(blk_cell BN0.out 5).trans rfl;have hfz5:=blk_frozen BN0.out 5;clear hg hbox hb));have hb6:Below wr.heap.size wr ((((((w4.setCell ⟨gn,0,none⟩ (.int .i64 (rd_T99 l1 i).f0)).setCell ⟨gn,1,none⟩ (.int .i64 (rd_T99 l1 i).f1)).setCell ⟨gn,2,none⟩ (.int .i64 (rd_T99 l1 i).f2)).setCell ⟨gn,3,none⟩ (.int .i64 (rd_T99 l1 i).f3)).setCell ⟨gn,4,none⟩ (.int .i64 (rd_T99 l1 i).f4)).setCell ⟨gn,5,none⟩ (.int .i64 (rd_T99 l1 i).f5)):=below_set (below_set (below_set (below_set (below_set (below_set (HX0.out) GN.out) GN.out) GN.out) GN.out) GN.out) GN.out;have BNd:Aside0 (((((((w4.setCell ⟨gn,0,none⟩ (.int .i64 (rd_T99 l1 i).f0)).setCell ⟨gn,1,none⟩ (.int .i64 (rd_T99 l1 i).f1)).setCell ⟨gn,2,none⟩ (.int .i64 (rd_T99 l1 i).f2)).setCell ⟨gn,3,none⟩ (.int .i64 (rd_T99 l1 i).f3)).setCell ⟨gn,4,none⟩ (.int .i64 (rd_T99 l1 i).f4)).setCell ⟨gn,5,none⟩ (.int .i64 (rd_T99 l1 i).f5)).heap[gn]? = some (.cells #[.int .i64 (rd_T99 l1 i).f0,.int .i64 (rd_T99 l1 i).f1,.int .i64 (rd_T99 l1 i).f2,.int .i64 (rd_T99 l1 i).f3,.int .i64 (rd_T99 l1 i).f4,.int .i64 (rd_T99 l1 i).f5] 99 (0,0))):=⟨blk_put (cs:=#[.int .i64 (rd_T99 l1 i).f0,.int .i64 (rd_T99 l1 i).f1,.int .i64 (rd_T99 l1 i).f2,.int .i64 (rd_T99 l1 i).f3,.int .i64 (rd_T99 l1 i).f4,.int .i64 0]) (blk_put (cs:=#[.int .i64 (rd_T99 l1 i).f0,.int .i64 (rd_T99 l1 i).f1,.int .i64 (rd_T99 l1 i).f2,.int .i64 (rd_T99 l1 i).f3,.int .i64 0,.int .i64 0]) (blk_put (cs:=#[.int .i64 (rd_T99 l1 i).f0,.int .i64 (rd_T99 l1 i).f1,.int .i64 (rd_T99 l1 i).f2,.int .i64 0,.int .i64 0,.int .i64 0]) (blk_put (cs:=#[.int .i64 (rd_T99 l1 i).f0,.int .i64 (rd_T99 l1 i).f1,.int .i64 0,.int .i64 0,.int .i64 0,.int .i64 0]) (blk_put (cs:=#[.int .i64 (rd_T99 l1 i).f0,.int .i64 0,.int .i64 0,.int .i64 0,.int .i64 0,.int .i64 0]) (blk_put (cs:=#[.int .i64 0,.int .i64 0,.int .i64 0,.int .i64 0,.int .i64 0,.int .i64 0]) (BN0.out) 0 (.int .i64 (rd_T99 l1 i).f0) rfl) 1 (.int .i64 (rd_T99 l1 i).f1) rfl) 2 (.int .i64 (rd_T99 l1 i).f2) rfl) 3 (.int .i64 (rd_T99 l1 i).f3) rfl) 4 (.int .i64 (rd_T99 l1 i).f4) rfl) 5 (.int .i64 (rd_T99 l1 i).f5) rfl⟩;clear hz0 hfz0 hz1 hfz1 hz2 hfz2 hz3 hfz3 hz4 hfz4 hz5 hfz5 BN0 HX0;generalize ((((((w4.setCell ⟨gn,0,none⟩ (.int .i64 (rd_T99 l1 i).f0)).setCell ⟨gn,1,none⟩ (.int .i64 (rd_T99 l1 i).f1)).setCell ⟨gn,2,none⟩ (.int .i64 (rd_T99 l1 i).f2)).setCell ⟨gn,3,none⟩ (.int .i64 (rd_T99 l1 i).f3)).setCell ⟨gn,4,none⟩ (.int .i64 (rd_T99 l1 i).f4)).setCell ⟨gn,5,none⟩ (.int .i64 (rd_T99 l1 i).f5))=w5 at BNd hb6 ⊢;replace hb6:=below_drew1 hb6;replace BNd:=Aside0.mk (blk_drew BNd.out);have HBd:=Aside0.mk (below_step HB.out hb6);have BAd:=Aside0.mk (blk_below BA.out hb6);have HMd:=Aside0.mk (Kd.R_below HM.out hb6);clear hb6
        refine start_ (n:=22) (S:=fun w'=>w'.cell? ⟨gn,0,none⟩=some (.int .i64 (rd_T99 l1 i).f0)∧w'.cell? ⟨gn,1,none⟩=some (.int .i64 (rd_T99 l1 i).f1)∧w'.cell? ⟨gn,2,none⟩=some (.int .i64 (rd_T99 l1 i).f2)∧w'.cell? ⟨gn,3,none⟩=some (.int .i64 (rd_T99 l1 i).f3)∧w'.cell? ⟨gn,4,none⟩=some (.int .i64 (rd_T99 l1 i).f4)∧w'.cell? ⟨gn,5,none⟩=some (.int .i64 (rd_T99 l1 i).f5)) (ds:=[]) (tf 0 22) (by kernel_rfl) rfl rfl ⟨(blk_cell BNd.out 0).trans rfl,(blk_cell BNd.out 1).trans rfl,(blk_cell BNd.out 2).trans rfl,(blk_cell BNd.out 3).trans rfl,(blk_cell BNd.out 4).trans rfl,(blk_cell BNd.out 5).trans rfl⟩ (fun hHeld=>?_);generalize w5.drew=w6 at BNd HBd BAd HMd hHeld ⊢;refine take_ (i:=0) (N:=some 63) (v:=?_) (a':=?_) (tf 1 21) rfl rfl (by kernel_rfl) (fun _ _ _ h=>h) (Or.inl ⟨by rfl,?_⟩) hHeld ?_ ?_;rotate_left
        ·rintro w' ⟨s0,s1,s2,s3,s4,s5⟩;go_simp;with_reducible rfl
        rotate_left
        ·simp only [Act.put,s1,s2,s3,i64_w,i32_w];rfl
        refine one_ (i:=1) (N:=some 64) (tf 2 20) rfl rfl (by kernel_rfl) (by decide) (fun K hK=>?_);refine goes_ Try.func123 (by kernel_rfl) rfl #[.agg #[.int .i64 (rd_T99 l1 i).f0,.int .i64 (rd_T99 l1 i).f1,.int .i64 (rd_T99 l1 i).f2,.int .i64 (rd_T99 l1 i).f3,.int .i64 (rd_T99 l1 i).f4,.int .i64 (rd_T99 l1 i).f5]] (by rfl) rfl rfl (by simp only [List.map_toArray,List.map_cons,List.map_nil];rfl) ?_
        with_reducible refine (impl_isQuant.calls (rd_T99 l1 i).f0 (rd_T99 l1 i).f1 (rd_T99 l1 i).f2 (rd_T99 l1 i).f3 (rd_T99 l1 i).f4 (rd_T99 l1 i).f5 true _ HQ.out).mono ?_
        rintro e w7 ⟨rfl,hb⟩;refine ⟨_,rfl,?_⟩;have BNe:=Aside0.mk (blk_below BNd.out hb);have BAe:=Aside0.mk (blk_below BAd.out hb);have HBe:=Aside0.mk (below_step HBd.out hb);have HMe:=Aside0.mk (Kd.R_below HMd.out hb);refine hK.out _ _ ⟨(blk_cell BNe.out 0).trans rfl,(blk_cell BNe.out 1).trans rfl,(blk_cell BNe.out 2).trans rfl,(blk_cell BNe.out 3).trans rfl,(blk_cell BNe.out 4).trans rfl,(blk_cell BNe.out 5).trans rfl⟩ (fun hHeld=>?_);clear hK K;refine norm_ (a':=?_) ?_ ?_;rotate_left
        ·show Act.put _ (some 64) _=_
         simp only [Act.put,s1,s2,s3,i64_w,i32_w];rfl
        refine pure_ (i:=2) (N:=some 65) (v:=?_) (a':=?_) (tf 3 19) rfl rfl (by kernel_rfl) (fun _ _ _ h=>h) (Or.inl ⟨by rfl,?_⟩) ?_ ?_;rotate_left
        ·intro w';go_simp;with_reducible rfl
        rotate_left
        ·simp only [Act.put,s1,s2,s3,i64_w,i32_w];rfl
        refine pure_ (i:=3) (N:=some 66) (v:=undef) (a':=?_) (tf 4 18) rfl rfl (by kernel_rfl) (fun _ _ _ h=>h) (Or.inr ⟨by rfl,rfl⟩) ?_ ?_;rotate_left
        ·simp only [Act.put,s1,s2,s3,i64_w,i32_w];rfl
        refine pure_ (i:=4) (N:=some 67) (v:=undef) (a':=?_) (tf 5 17) rfl rfl (by kernel_rfl) (fun _ _ _ h=>h) (Or.inr ⟨by rfl,rfl⟩) ?_ ?_;rotate_left
        ·simp only [Act.put,s1,s2,s3,i64_w,i32_w];rfl
        refine pure_ (i:=5) (N:=some 68) (v:=undef) (a':=?_) (tf 6 16) rfl rfl (by kernel_rfl) (fun _ _ _ h=>h) (Or.inr ⟨by rfl,rfl⟩) ?_ ?_;rotate_left
        ·simp only [Act.put,s1,s2,s3,i64_w,i32_w];rfl
        refine pure_ (i:=6) (N:=some 69) (v:=undef) (a':=?_) (tf 7 15) rfl rfl (by kernel_rfl) (fun _ _ _ h=>h) (Or.inr ⟨by rfl,rfl⟩) ?_ ?_;rotate_left
        ·simp only [Act.put,s1,s2,s3,i64_w,i32_w];rfl
        refine pure_ (i:=7) (N:=some 70) (v:=undef) (a':=?_) (tf 8 14) rfl rfl (by kernel_rfl) (fun _ _ _ h=>h) (Or.inr ⟨by rfl,rfl⟩) ?_ ?_;rotate_left
        ·simp only [Act.put,s1,s2,s3,i64_w,i32_w];rfl
        refine pure_ (i:=8) (N:=some 71) (v:=undef) (a':=?_) (tf 9 13) rfl rfl (by kernel_rfl) (fun _ _ _ h=>h) (Or.inr ⟨by rfl,rfl⟩) ?_ ?_;rotate_left
        ·simp only [Act.put,s1,s2,s3,i64_w,i32_w];rfl
        refine pure_ (i:=9) (N:=some 72) (v:=undef) (a':=?_) (tf 10 12) rfl rfl (by kernel_rfl) (fun _ _ _ h=>h) (Or.inr ⟨by rfl,rfl⟩) ?_ ?_;rotate_left
        ·simp only [Act.put,s1,s2,s3,i64_w,i32_w];rfl
        refine pure_ (i:=10) (N:=some 73) (v:=undef) (a':=?_) (tf 11 11) rfl rfl (by kernel_rfl) (fun _ _ _ h=>h) (Or.inr ⟨by rfl,rfl⟩) ?_ ?_;rotate_left
        ·simp only [Act.put,s1,s2,s3,i64_w,i32_w];rfl
        refine pure_ (i:=11) (N:=some 74) (v:=undef) (a':=?_) (tf 12 10) rfl rfl (by kernel_rfl) (fun _ _ _ h=>h) (Or.inr ⟨by rfl,rfl⟩) ?_ ?_;rotate_left
        ·simp only [Act.put,s1,s2,s3,i64_w,i32_w];rfl
        refine pure_ (i:=12) (N:=some 75) (v:=undef) (a':=?_) (tf 13 9) rfl rfl (by kernel_rfl) (fun _ _ _ h=>h) (Or.inr ⟨by rfl,rfl⟩) ?_ ?_;rotate_left
        ·simp only [Act.put,s1,s2,s3,i64_w,i32_w];rfl
        refine pure_ (i:=13) (N:=some 76) (v:=undef) (a':=?_) (tf 14 8) rfl rfl (by kernel_rfl) (fun _ _ _ h=>h) (Or.inr ⟨by rfl,rfl⟩) ?_ ?_;rotate_left
        ·simp only [Act.put,s1,s2,s3,i64_w,i32_w];rfl
        refine pure_ (i:=14) (N:=some 77) (v:=undef) (a':=?_) (tf 15 7) rfl rfl (by kernel_rfl) (fun _ _ _ h=>h) (Or.inr ⟨by rfl,rfl⟩) ?_ ?_;rotate_left
        ·simp only [Act.put,s1,s2,s3,i64_w,i32_w];rfl
        refine pure_ (i:=15) (N:=some 78) (v:=undef) (a':=?_) (tf 16 6) rfl rfl (by kernel_rfl) (fun _ _ _ h=>h) (Or.inr ⟨by rfl,rfl⟩) ?_ ?_;rotate_left
        ·simp only [Act.put,s1,s2,s3,i64_w,i32_w];rfl
        refine pure_ (i:=16) (N:=some 79) (v:=undef) (a':=?_) (tf 17 5) rfl rfl (by kernel_rfl) (fun _ _ _ h=>h) (Or.inr ⟨by rfl,rfl⟩) ?_ ?_;rotate_left
        ·simp only [Act.put,s1,s2,s3,i64_w,i32_w];rfl
        refine pure_ (i:=17) (N:=some 80) (v:=undef) (a':=?_) (tf 18 4) rfl rfl (by kernel_rfl) (fun _ _ _ h=>h) (Or.inr ⟨by rfl,rfl⟩) ?_ ?_;rotate_left
        ·simp only [Act.put,s1,s2,s3,i64_w,i32_w];rfl
        refine pure_ (i:=18) (N:=some 81) (v:=undef) (a':=?_) (tf 19 3) rfl rfl (by kernel_rfl) (fun _ _ _ h=>h) (Or.inr ⟨by rfl,rfl⟩) ?_ ?_;rotate_left
        ·simp only [Act.put,s1,s2,s3,i64_w,i32_w];rfl
        refine pure_ (i:=19) (N:=some 82) (v:=undef) (a':=?_) (tf 20 2) rfl rfl (by kernel_rfl) (fun _ _ _ h=>h) (Or.inr ⟨by rfl,rfl⟩) ?_ ?_;rotate_left
        ·simp only [Act.put,s1,s2,s3,i64_w,i32_w];rfl
        refine pure_ (i:=20) (N:=some 83) (v:=undef) (a':=?_) (tf 21 1) rfl rfl (by kernel_rfl) (fun _ _ _ h=>h) (Or.inr ⟨by rfl,rfl⟩) ?_ ?_;rotate_left
        ·simp only [Act.put,s1,s2,s3,i64_w,i32_w];rfl
        refine pure_ (i:=21) (N:=some 84) (v:=?_) (a':=?_) (tf 22 0) rfl rfl (by kernel_rfl) (fun _ _ _ h=>h) (Or.inl ⟨by rfl,?_⟩) ?_ ?_;rotate_left
        ·intro w';go_simp;with_reducible rfl
        rotate_left
        ·simp only [Act.put,s1,s2,s3,i64_w,i32_w];rfl
        refine done_ (by kernel_rfl) ?_;go_wp2;go_ret;exact ⟨rfl,HBe.out⟩
       | false =>
       rw [if_neg (by decide)] at H
       by_cases c5:i < (ms.length:Int)
       case neg=>rw [if_neg c5] at H;cases H
       rw [if_pos c5] at H;obtain ⟨adm,e_,hcm⟩:=Kd.at_bool (Kd.R_reads' HM.out).2.2 i C4.out c5;cases e_;have HCM0:=Aside0.mk hcm;clear hcm;have d5:decide (i < (ms.length:Int))=true:=decide_eq_true c5;replace c5:=eq_true c5
       cases c6:rdOf false ms i with
       | false =>
        rw [c6,if_neg (by decide)] at H;have H':=Aside0.mk H;rw [c6] at HCM0;clear H c6;go_wp2_with (first|((with_reducible refine gate_dst (N:=10) rfl ?_);refine bx (N:=10) (cs:=#[.int .i64 0,.int .i64 0,.int .i64 0,.int .i64 0,.int .i64 0,.int .i64 0]) (t:=99) ?_;intro gn hg w4 hbox hb;have BN0:=Aside0.mk hbox;have HX0:=Aside0.mk hb;have GN:=Aside0.mk (show wr.heap.size≤gn by rw [hg];exact Nat.le_refl _);have hz0:w4.cell? ⟨gn,0,none⟩=some (.int .i64 0):=(blk_cell BN0.out 0).trans rfl;have hfz0:=blk_frozen BN0.out 0;have hz1:w4.cell? ⟨gn,1,none⟩=some (.int .i64 0):=(blk_cell BN0.out 1).trans rfl;have hfz1:=blk_frozen BN0.out 1;have hz2:w4.cell? ⟨gn,2,none⟩=some (.int .i64 0):=(blk_cell BN0.out 2).trans rfl;have hfz2:=blk_frozen BN0.out 2;have hz3:w4.cell? ⟨gn,3,none⟩=some (.int .i64 0):=(blk_cell BN0.out 3).trans rfl;have hfz3:=blk_frozen BN0.out 3;have hz4:w4.cell? ⟨gn,4,none⟩=some (.int .i64 0):=(blk_cell BN0.out 4).trans rfl;have hfz4:=blk_frozen BN0.out 4;have hz5:w4.cell? ⟨gn,5,none⟩=some (.int .i64 0):=(blk_cell BN0.out 5).trans rfl;have hfz5:=blk_frozen BN0.out 5;clear hg hbox hb));have hb6:Below wr.heap.size wr ((((((w4.setCell ⟨gn,0,none⟩ (.int .i64 (rd_T99 l1 i).f0)).setCell ⟨gn,1,none⟩ (.int .i64 (rd_T99 l1 i).f1)).setCell ⟨gn,2,none⟩ (.int .i64 (rd_T99 l1 i).f2)).setCell ⟨gn,3,none⟩ (.int .i64 (rd_T99 l1 i).f3)).setCell ⟨gn,4,none⟩ (.int .i64 (rd_T99 l1 i).f4)).setCell ⟨gn,5,none⟩ (.int .i64 (rd_T99 l1 i).f5)):=below_set (below_set (below_set (below_set (below_set (below_set (HX0.out) GN.out) GN.out) GN.out) GN.out) GN.out) GN.out;have BNd:Aside0 (((((((w4.setCell ⟨gn,0,none⟩ (.int .i64 (rd_T99 l1 i).f0)).setCell ⟨gn,1,none⟩ (.int .i64 (rd_T99 l1 i).f1)).setCell ⟨gn,2,none⟩ (.int .i64 (rd_T99 l1 i).f2)).setCell ⟨gn,3,none⟩ (.int .i64 (rd_T99 l1 i).f3)).setCell ⟨gn,4,none⟩ (.int .i64 (rd_T99 l1 i).f4)).setCell ⟨gn,5,none⟩ (.int .i64 (rd_T99 l1 i).f5)).heap[gn]? = some (.cells #[.int .i64 (rd_T99 l1 i).f0,.int .i64 (rd_T99 l1 i).f1,.int .i64 (rd_T99 l1 i).f2,.int .i64 (rd_T99 l1 i).f3,.int .i64 (rd_T99 l1 i).f4,.int .i64 (rd_T99 l1 i).f5] 99 (0,0))):=⟨blk_put (cs:=#[.int .i64 (rd_T99 l1 i).f0,.int .i64 (rd_T99 l1 i).f1,.int .i64 (rd_T99 l1 i).f2,.int .i64 (rd_T99 l1 i).f3,.int .i64 (rd_T99 l1 i).f4,.int .i64 0]) (blk_put (cs:=#[.int .i64 (rd_T99 l1 i).f0,.int .i64 (rd_T99 l1 i).f1,.int .i64 (rd_T99 l1 i).f2,.int .i64 (rd_T99 l1 i).f3,.int .i64 0,.int .i64 0]) (blk_put (cs:=#[.int .i64 (rd_T99 l1 i).f0,.int .i64 (rd_T99 l1 i).f1,.int .i64 (rd_T99 l1 i).f2,.int .i64 0,.int .i64 0,.int .i64 0]) (blk_put (cs:=#[.int .i64 (rd_T99 l1 i).f0,.int .i64 (rd_T99 l1 i).f1,.int .i64 0,.int .i64 0,.int .i64 0,.int .i64 0]) (blk_put (cs:=#[.int .i64 (rd_T99 l1 i).f0,.int .i64 0,.int .i64 0,.int .i64 0,.int .i64 0,.int .i64 0]) (blk_put (cs:=#[.int .i64 0,.int .i64 0,.int .i64 0,.int .i64 0,.int .i64 0,.int .i64 0]) (BN0.out) 0 (.int .i64 (rd_T99 l1 i).f0) rfl) 1 (.int .i64 (rd_T99 l1 i).f1) rfl) 2 (.int .i64 (rd_T99 l1 i).f2) rfl) 3 (.int .i64 (rd_T99 l1 i).f3) rfl) 4 (.int .i64 (rd_T99 l1 i).f4) rfl) 5 (.int .i64 (rd_T99 l1 i).f5) rfl⟩;clear hz0 hfz0 hz1 hfz1 hz2 hfz2 hz3 hfz3 hz4 hfz4 hz5 hfz5 BN0 HX0;generalize ((((((w4.setCell ⟨gn,0,none⟩ (.int .i64 (rd_T99 l1 i).f0)).setCell ⟨gn,1,none⟩ (.int .i64 (rd_T99 l1 i).f1)).setCell ⟨gn,2,none⟩ (.int .i64 (rd_T99 l1 i).f2)).setCell ⟨gn,3,none⟩ (.int .i64 (rd_T99 l1 i).f3)).setCell ⟨gn,4,none⟩ (.int .i64 (rd_T99 l1 i).f4)).setCell ⟨gn,5,none⟩ (.int .i64 (rd_T99 l1 i).f5))=w5 at BNd hb6 ⊢;replace hb6:=below_drew1 hb6;replace BNd:=Aside0.mk (blk_drew BNd.out);have HBd:=Aside0.mk (below_step HB.out hb6);have BAd:=Aside0.mk (blk_below BA.out hb6);have HMd:=Aside0.mk (Kd.R_below HM.out hb6)
        have HCM:=Aside0.mk ((hb6.cell (World.block_lt_of_cell? wr _ HCM0.out)).trans HCM0.out);clear hb6;refine start_ (n:=22) (S:=fun w'=>w'.cell? ⟨gn,0,none⟩=some (.int .i64 (rd_T99 l1 i).f0)∧w'.cell? ⟨gn,1,none⟩=some (.int .i64 (rd_T99 l1 i).f1)∧w'.cell? ⟨gn,2,none⟩=some (.int .i64 (rd_T99 l1 i).f2)∧w'.cell? ⟨gn,3,none⟩=some (.int .i64 (rd_T99 l1 i).f3)∧w'.cell? ⟨gn,4,none⟩=some (.int .i64 (rd_T99 l1 i).f4)∧w'.cell? ⟨gn,5,none⟩=some (.int .i64 (rd_T99 l1 i).f5)∧w'.cell? (adm.add i.toNat)=some (.bool false)) (ds:=[]) (tf 0 22) (by kernel_rfl) rfl rfl ⟨(blk_cell BNd.out 0).trans rfl,(blk_cell BNd.out 1).trans rfl,(blk_cell BNd.out 2).trans rfl,(blk_cell BNd.out 3).trans rfl,(blk_cell BNd.out 4).trans rfl,(blk_cell BNd.out 5).trans rfl,HCM.out⟩ (fun hHeld=>?_);generalize w5.drew=w6 at BNd HBd BAd HMd HCM hHeld ⊢;refine take_ (i:=0) (N:=some 63) (v:=?_) (a':=?_) (tf 1 21) rfl rfl (by kernel_rfl) (fun _ _ _ h=>h) (Or.inl ⟨by rfl,?_⟩) hHeld ?_ ?_;rotate_left
        ·rintro w' ⟨s0,s1,s2,s3,s4,s5,s6⟩;go_simp;with_reducible rfl
        rotate_left
        ·simp only [Act.put,s1,s2,s3,i64_w,i32_w];rfl
        refine one_ (i:=1) (N:=some 64) (tf 2 20) rfl rfl (by kernel_rfl) (by decide) (fun K hK=>?_);refine goes_ Try.func123 (by kernel_rfl) rfl #[.agg #[.int .i64 (rd_T99 l1 i).f0,.int .i64 (rd_T99 l1 i).f1,.int .i64 (rd_T99 l1 i).f2,.int .i64 (rd_T99 l1 i).f3,.int .i64 (rd_T99 l1 i).f4,.int .i64 (rd_T99 l1 i).f5]] (by rfl) rfl rfl (by simp only [List.map_toArray,List.map_cons,List.map_nil];rfl) ?_
        with_reducible refine (impl_isQuant.calls (rd_T99 l1 i).f0 (rd_T99 l1 i).f1 (rd_T99 l1 i).f2 (rd_T99 l1 i).f3 (rd_T99 l1 i).f4 (rd_T99 l1 i).f5 false _ HQ.out).mono ?_
        rintro e w7 ⟨rfl,hb⟩;refine ⟨_,rfl,?_⟩;have BNe:=Aside0.mk (blk_below BNd.out hb);have BAe:=Aside0.mk (blk_below BAd.out hb);have HBe:=Aside0.mk (below_step HBd.out hb);have HMe:=Aside0.mk (Kd.R_below HMd.out hb);have hcm2:=(hb.cell (World.block_lt_of_cell? w6 _ HCM.out)).trans HCM.out;refine hK.out _ _ ⟨(blk_cell BNe.out 0).trans rfl,(blk_cell BNe.out 1).trans rfl,(blk_cell BNe.out 2).trans rfl,(blk_cell BNe.out 3).trans rfl,(blk_cell BNe.out 4).trans rfl,(blk_cell BNe.out 5).trans rfl,hcm2⟩ (fun hHeld=>?_);clear hK K;refine norm_ (a':=?_) ?_ ?_;rotate_left
        ·show Act.put _ (some 64) _=_
         simp only [Act.put,s1,s2,s3,i64_w,i32_w];rfl
        refine pure_ (i:=2) (N:=some 65) (v:=?_) (a':=?_) (tf 3 19) rfl rfl (by kernel_rfl) (fun _ _ _ h=>h) (Or.inl ⟨by rfl,?_⟩) ?_ ?_;rotate_left
        ·intro w';go_simp;with_reducible rfl
        rotate_left
        ·simp only [Act.put,s1,s2,s3,i64_w,i32_w];rfl
        refine pure_ (i:=3) (N:=some 66) (v:=?_) (a':=?_) (tf 4 18) rfl rfl (by kernel_rfl) (fun _ _ _ h=>h) (Or.inl ⟨by rfl,?_⟩) ?_ ?_;rotate_left
        ·intro w';go_simp;with_reducible rfl
        rotate_left
        ·simp only [Act.put,s1,s2,s3,i64_w,i32_w];rfl
        refine pure_ (i:=4) (N:=some 67) (v:=?_) (a':=?_) (tf 5 17) rfl rfl (by kernel_rfl) (fun _ _ _ h=>h) (Or.inl ⟨by rfl,?_⟩) ?_ ?_;rotate_left
        ·intro w';go_simp;with_reducible rfl
        rotate_left
        ·simp only [Act.put,s1,s2,s3,i64_w,i32_w];rfl
        refine pure_ (i:=5) (N:=some 68) (v:=?_) (a':=?_) (tf 6 16) rfl rfl (by kernel_rfl) (fun _ _ _ h=>h) (Or.inl ⟨by rfl,?_⟩) ?_ ?_;rotate_left
        ·intro w';go_simp;with_reducible rfl
        rotate_left
        ·simp only [Act.put,s1,s2,s3,i64_w,i32_w];rfl
        refine take_ (i:=6) (N:=some 69) (v:=?_) (a':=?_) (tf 7 15) rfl rfl (by kernel_rfl) (fun _ _ _ h=>h) (Or.inl ⟨by rfl,?_⟩) hHeld ?_ ?_;rotate_left
        ·rintro w' ⟨s0,s1,s2,s3,s4,s5,s6⟩;go_simp;with_reducible rfl
        rotate_left
        ·simp only [Act.put,s1,s2,s3,i64_w,i32_w];rfl
        refine pure_ (i:=7) (N:=some 70) (v:=?_) (a':=?_) (tf 8 14) rfl rfl (by kernel_rfl) (fun _ _ _ h=>h) (Or.inl ⟨by rfl,?_⟩) ?_ ?_;rotate_left
        ·intro w';go_simp;with_reducible rfl
        rotate_left
        ·simp only [Act.put,s1,s2,s3,i64_w,i32_w];rfl
        refine pure_ (i:=8) (N:=some 71) (v:=undef) (a':=?_) (tf 9 13) rfl rfl (by kernel_rfl) (fun _ _ _ h=>h) (Or.inr ⟨by rfl,rfl⟩) ?_ ?_;rotate_left
        ·simp only [Act.put,s1,s2,s3,i64_w,i32_w];rfl
        refine pure_ (i:=9) (N:=some 72) (v:=undef) (a':=?_) (tf 10 12) rfl rfl (by kernel_rfl) (fun _ _ _ h=>h) (Or.inr ⟨by rfl,rfl⟩) ?_ ?_;rotate_left
        ·simp only [Act.put,s1,s2,s3,i64_w,i32_w];rfl
        refine pure_ (i:=10) (N:=some 73) (v:=undef) (a':=?_) (tf 11 11) rfl rfl (by kernel_rfl) (fun _ _ _ h=>h) (Or.inr ⟨by rfl,rfl⟩) ?_ ?_;rotate_left
        ·simp only [Act.put,s1,s2,s3,i64_w,i32_w];rfl
        refine pure_ (i:=11) (N:=some 74) (v:=?_) (a':=?_) (tf 12 10) rfl rfl (by kernel_rfl) (fun _ _ _ h=>h) (Or.inl ⟨by rfl,?_⟩) ?_ ?_;rotate_left
        ·intro w';go_simp;with_reducible rfl
        rotate_left
        ·simp only [Act.put,s1,s2,s3,i64_w,i32_w];rfl
        refine pure_ (i:=12) (N:=some 75) (v:=?_) (a':=?_) (tf 13 9) rfl rfl (by kernel_rfl) (fun _ _ _ h=>h) (Or.inl ⟨by rfl,?_⟩) ?_ ?_;rotate_left
        ·intro w';go_simp;with_reducible rfl
        rotate_left
        ·simp only [Act.put,s1,s2,s3,i64_w,i32_w];rfl
        refine pure_ (i:=13) (N:=some 76) (v:=undef) (a':=?_) (tf 14 8) rfl rfl (by kernel_rfl) (fun _ _ _ h=>h) (Or.inr ⟨by rfl,rfl⟩) ?_ ?_;rotate_left
        ·simp only [Act.put,s1,s2,s3,i64_w,i32_w];rfl
        refine pure_ (i:=14) (N:=some 77) (v:=undef) (a':=?_) (tf 15 7) rfl rfl (by kernel_rfl) (fun _ _ _ h=>h) (Or.inr ⟨by rfl,rfl⟩) ?_ ?_;rotate_left
        ·simp only [Act.put,s1,s2,s3,i64_w,i32_w];rfl
        refine pure_ (i:=15) (N:=some 78) (v:=undef) (a':=?_) (tf 16 6) rfl rfl (by kernel_rfl) (fun _ _ _ h=>h) (Or.inr ⟨by rfl,rfl⟩) ?_ ?_;rotate_left
        ·simp only [Act.put,s1,s2,s3,i64_w,i32_w];rfl
        refine pure_ (i:=16) (N:=some 79) (v:=undef) (a':=?_) (tf 17 5) rfl rfl (by kernel_rfl) (fun _ _ _ h=>h) (Or.inr ⟨by rfl,rfl⟩) ?_ ?_;rotate_left
        ·simp only [Act.put,s1,s2,s3,i64_w,i32_w];rfl
        refine pure_ (i:=17) (N:=some 80) (v:=undef) (a':=?_) (tf 18 4) rfl rfl (by kernel_rfl) (fun _ _ _ h=>h) (Or.inr ⟨by rfl,rfl⟩) ?_ ?_;rotate_left
        ·simp only [Act.put,s1,s2,s3,i64_w,i32_w];rfl
        refine pure_ (i:=18) (N:=some 81) (v:=undef) (a':=?_) (tf 19 3) rfl rfl (by kernel_rfl) (fun _ _ _ h=>h) (Or.inr ⟨by rfl,rfl⟩) ?_ ?_;rotate_left
        ·simp only [Act.put,s1,s2,s3,i64_w,i32_w];rfl
        refine pure_ (i:=19) (N:=some 82) (v:=undef) (a':=?_) (tf 20 2) rfl rfl (by kernel_rfl) (fun _ _ _ h=>h) (Or.inr ⟨by rfl,rfl⟩) ?_ ?_;rotate_left
        ·simp only [Act.put,s1,s2,s3,i64_w,i32_w];rfl
        refine pure_ (i:=20) (N:=some 83) (v:=?_) (a':=?_) (tf 21 1) rfl rfl (by kernel_rfl) (fun _ _ _ h=>h) (Or.inl ⟨by rfl,?_⟩) ?_ ?_;rotate_left
        ·intro w';go_simp;with_reducible rfl
        rotate_left
        ·simp only [Act.put,s1,s2,s3,i64_w,i32_w];rfl
        refine pure_ (i:=21) (N:=some 84) (v:=?_) (a':=?_) (tf 22 0) rfl rfl (by kernel_rfl) (fun _ _ _ h=>h) (Or.inl ⟨by rfl,?_⟩) ?_ ?_;rotate_left
        ·intro w';go_simp;with_reducible rfl
        rotate_left
        ·simp only [Act.put,s1,s2,s3,i64_w,i32_w];rfl
        refine done_ (by kernel_rfl) ?_;go_wp2;go_roundg k2
        case measure=>have:=HK1.out;omega
        case rel=>exact ⟨wrap64 (i + 1),rfl,H',⟨by have:=HK1.out;omega⟩,BAe,HMe,HBe⟩
       | true =>
       rw [c6,if_pos rfl] at H;rw [c6] at HCM0;clear c6
       by_cases c7:(rd_T99 l1 i).f0=1
       case neg =>
        rw [if_neg c7] at H;have d7:((rd_T99 l1 i).f0 == 1)=false:=beq_eq_false_iff_ne.2 c7;have H':=Aside0.mk H;clear H c7;go_wp2_with (first|((with_reducible refine gate_dst (N:=10) rfl ?_);refine bx (N:=10) (cs:=#[.int .i64 0,.int .i64 0,.int .i64 0,.int .i64 0,.int .i64 0,.int .i64 0]) (t:=99) ?_;intro gn hg w4 hbox hb;have BN0:=Aside0.mk hbox;have HX0:=Aside0.mk hb;have GN:=Aside0.mk (show wr.heap.size≤gn by rw [hg];exact Nat.le_refl _);have hz0:w4.cell? ⟨gn,0,none⟩=some (.int .i64 0):=(blk_cell BN0.out 0).trans rfl;have hfz0:=blk_frozen BN0.out 0;have hz1:w4.cell? ⟨gn,1,none⟩=some (.int .i64 0):=(blk_cell BN0.out 1).trans rfl;have hfz1:=blk_frozen BN0.out 1;have hz2:w4.cell? ⟨gn,2,none⟩=some (.int .i64 0):=(blk_cell BN0.out 2).trans rfl;have hfz2:=blk_frozen BN0.out 2;have hz3:w4.cell? ⟨gn,3,none⟩=some (.int .i64 0):=(blk_cell BN0.out 3).trans rfl;have hfz3:=blk_frozen BN0.out 3;have hz4:w4.cell? ⟨gn,4,none⟩=some (.int .i64 0):=(blk_cell BN0.out 4).trans rfl;have hfz4:=blk_frozen BN0.out 4;have hz5:w4.cell? ⟨gn,5,none⟩=some (.int .i64 0):=(blk_cell BN0.out 5).trans rfl;have hfz5:=blk_frozen BN0.out 5;clear hg hbox hb));have hb6:Below wr.heap.size wr ((((((w4.setCell ⟨gn,0,none⟩ (.int .i64 (rd_T99 l1 i).f0)).setCell ⟨gn,1,none⟩ (.int .i64 (rd_T99 l1 i).f1)).setCell ⟨gn,2,none⟩ (.int .i64 (rd_T99 l1 i).f2)).setCell ⟨gn,3,none⟩ (.int .i64 (rd_T99 l1 i).f3)).setCell ⟨gn,4,none⟩ (.int .i64 (rd_T99 l1 i).f4)).setCell ⟨gn,5,none⟩ (.int .i64 (rd_T99 l1 i).f5)):=below_set (below_set (below_set (below_set (below_set (below_set (HX0.out) GN.out) GN.out) GN.out) GN.out) GN.out) GN.out;have BNd:Aside0 (((((((w4.setCell ⟨gn,0,none⟩ (.int .i64 (rd_T99 l1 i).f0)).setCell ⟨gn,1,none⟩ (.int .i64 (rd_T99 l1 i).f1)).setCell ⟨gn,2,none⟩ (.int .i64 (rd_T99 l1 i).f2)).setCell ⟨gn,3,none⟩ (.int .i64 (rd_T99 l1 i).f3)).setCell ⟨gn,4,none⟩ (.int .i64 (rd_T99 l1 i).f4)).setCell ⟨gn,5,none⟩ (.int .i64 (rd_T99 l1 i).f5)).heap[gn]? = some (.cells #[.int .i64 (rd_T99 l1 i).f0,.int .i64 (rd_T99 l1 i).f1,.int .i64 (rd_T99 l1 i).f2,.int .i64 (rd_T99 l1 i).f3,.int .i64 (rd_T99 l1 i).f4,.int .i64 (rd_T99 l1 i).f5] 99 (0,0))):=⟨blk_put (cs:=#[.int .i64 (rd_T99 l1 i).f0,.int .i64 (rd_T99 l1 i).f1,.int .i64 (rd_T99 l1 i).f2,.int .i64 (rd_T99 l1 i).f3,.int .i64 (rd_T99 l1 i).f4,.int .i64 0]) (blk_put (cs:=#[.int .i64 (rd_T99 l1 i).f0,.int .i64 (rd_T99 l1 i).f1,.int .i64 (rd_T99 l1 i).f2,.int .i64 (rd_T99 l1 i).f3,.int .i64 0,.int .i64 0]) (blk_put (cs:=#[.int .i64 (rd_T99 l1 i).f0,.int .i64 (rd_T99 l1 i).f1,.int .i64 (rd_T99 l1 i).f2,.int .i64 0,.int .i64 0,.int .i64 0]) (blk_put (cs:=#[.int .i64 (rd_T99 l1 i).f0,.int .i64 (rd_T99 l1 i).f1,.int .i64 0,.int .i64 0,.int .i64 0,.int .i64 0]) (blk_put (cs:=#[.int .i64 (rd_T99 l1 i).f0,.int .i64 0,.int .i64 0,.int .i64 0,.int .i64 0,.int .i64 0]) (blk_put (cs:=#[.int .i64 0,.int .i64 0,.int .i64 0,.int .i64 0,.int .i64 0,.int .i64 0]) (BN0.out) 0 (.int .i64 (rd_T99 l1 i).f0) rfl) 1 (.int .i64 (rd_T99 l1 i).f1) rfl) 2 (.int .i64 (rd_T99 l1 i).f2) rfl) 3 (.int .i64 (rd_T99 l1 i).f3) rfl) 4 (.int .i64 (rd_T99 l1 i).f4) rfl) 5 (.int .i64 (rd_T99 l1 i).f5) rfl⟩;clear hz0 hfz0 hz1 hfz1 hz2 hfz2 hz3 hfz3 hz4 hfz4 hz5 hfz5 BN0 HX0;generalize ((((((w4.setCell ⟨gn,0,none⟩ (.int .i64 (rd_T99 l1 i).f0)).setCell ⟨gn,1,none⟩ (.int .i64 (rd_T99 l1 i).f1)).setCell ⟨gn,2,none⟩ (.int .i64 (rd_T99 l1 i).f2)).setCell ⟨gn,3,none⟩ (.int .i64 (rd_T99 l1 i).f3)).setCell ⟨gn,4,none⟩ (.int .i64 (rd_T99 l1 i).f4)).setCell ⟨gn,5,none⟩ (.int .i64 (rd_T99 l1 i).f5))=w5 at BNd hb6 ⊢;replace hb6:=below_drew1 hb6;replace BNd:=Aside0.mk (blk_drew BNd.out);have HBd:=Aside0.mk (below_step HB.out hb6);have BAd:=Aside0.mk (blk_below BA.out hb6);have HMd:=Aside0.mk (Kd.R_below HM.out hb6)
        have HCM:=Aside0.mk ((hb6.cell (World.block_lt_of_cell? wr _ HCM0.out)).trans HCM0.out);clear hb6;refine start_ (n:=22) (S:=fun w'=>w'.cell? ⟨gn,0,none⟩=some (.int .i64 (rd_T99 l1 i).f0)∧w'.cell? ⟨gn,1,none⟩=some (.int .i64 (rd_T99 l1 i).f1)∧w'.cell? ⟨gn,2,none⟩=some (.int .i64 (rd_T99 l1 i).f2)∧w'.cell? ⟨gn,3,none⟩=some (.int .i64 (rd_T99 l1 i).f3)∧w'.cell? ⟨gn,4,none⟩=some (.int .i64 (rd_T99 l1 i).f4)∧w'.cell? ⟨gn,5,none⟩=some (.int .i64 (rd_T99 l1 i).f5)∧w'.cell? (adm.add i.toNat)=some (.bool true)) (ds:=[]) (tf 0 22) (by kernel_rfl) rfl rfl ⟨(blk_cell BNd.out 0).trans rfl,(blk_cell BNd.out 1).trans rfl,(blk_cell BNd.out 2).trans rfl,(blk_cell BNd.out 3).trans rfl,(blk_cell BNd.out 4).trans rfl,(blk_cell BNd.out 5).trans rfl,HCM.out⟩ (fun hHeld=>?_);generalize w5.drew=w6 at BNd HBd BAd HMd HCM hHeld ⊢;refine take_ (i:=0) (N:=some 63) (v:=?_) (a':=?_) (tf 1 21) rfl rfl (by kernel_rfl) (fun _ _ _ h=>h) (Or.inl ⟨by rfl,?_⟩) hHeld ?_ ?_;rotate_left
        ·rintro w' ⟨s0,s1,s2,s3,s4,s5,s6⟩;go_simp;with_reducible rfl
        rotate_left
        ·simp only [Act.put,s1,s2,s3,i64_w,i32_w];rfl
        refine one_ (i:=1) (N:=some 64) (tf 2 20) rfl rfl (by kernel_rfl) (by decide) (fun K hK=>?_);refine goes_ Try.func123 (by kernel_rfl) rfl #[.agg #[.int .i64 (rd_T99 l1 i).f0,.int .i64 (rd_T99 l1 i).f1,.int .i64 (rd_T99 l1 i).f2,.int .i64 (rd_T99 l1 i).f3,.int .i64 (rd_T99 l1 i).f4,.int .i64 (rd_T99 l1 i).f5]] (by rfl) rfl rfl (by simp only [List.map_toArray,List.map_cons,List.map_nil];rfl) ?_
        with_reducible refine (impl_isQuant.calls (rd_T99 l1 i).f0 (rd_T99 l1 i).f1 (rd_T99 l1 i).f2 (rd_T99 l1 i).f3 (rd_T99 l1 i).f4 (rd_T99 l1 i).f5 false _ HQ.out).mono ?_
        rintro e w7 ⟨rfl,hb⟩;refine ⟨_,rfl,?_⟩;have BNe:=Aside0.mk (blk_below BNd.out hb);have BAe:=Aside0.mk (blk_below BAd.out hb);have HBe:=Aside0.mk (below_step HBd.out hb);have HMe:=Aside0.mk (Kd.R_below HMd.out hb);have hcm2:=(hb.cell (World.block_lt_of_cell? w6 _ HCM.out)).trans HCM.out;refine hK.out _ _ ⟨(blk_cell BNe.out 0).trans rfl,(blk_cell BNe.out 1).trans rfl,(blk_cell BNe.out 2).trans rfl,(blk_cell BNe.out 3).trans rfl,(blk_cell BNe.out 4).trans rfl,(blk_cell BNe.out 5).trans rfl,hcm2⟩ (fun hHeld=>?_);clear hK K;refine norm_ (a':=?_) ?_ ?_;rotate_left
        ·show Act.put _ (some 64) _=_
         simp only [Act.put,s1,s2,s3,i64_w,i32_w];rfl
        refine pure_ (i:=2) (N:=some 65) (v:=?_) (a':=?_) (tf 3 19) rfl rfl (by kernel_rfl) (fun _ _ _ h=>h) (Or.inl ⟨by rfl,?_⟩) ?_ ?_;rotate_left
        ·intro w';go_simp;with_reducible rfl
        rotate_left
        ·simp only [Act.put,s1,s2,s3,i64_w,i32_w];rfl
        refine pure_ (i:=3) (N:=some 66) (v:=?_) (a':=?_) (tf 4 18) rfl rfl (by kernel_rfl) (fun _ _ _ h=>h) (Or.inl ⟨by rfl,?_⟩) ?_ ?_;rotate_left
        ·intro w';go_simp;with_reducible rfl
        rotate_left
        ·simp only [Act.put,s1,s2,s3,i64_w,i32_w];rfl
        refine pure_ (i:=4) (N:=some 67) (v:=?_) (a':=?_) (tf 5 17) rfl rfl (by kernel_rfl) (fun _ _ _ h=>h) (Or.inl ⟨by rfl,?_⟩) ?_ ?_;rotate_left
        ·intro w';go_simp;with_reducible rfl
        rotate_left
        ·simp only [Act.put,s1,s2,s3,i64_w,i32_w];rfl
        refine pure_ (i:=5) (N:=some 68) (v:=?_) (a':=?_) (tf 6 16) rfl rfl (by kernel_rfl) (fun _ _ _ h=>h) (Or.inl ⟨by rfl,?_⟩) ?_ ?_;rotate_left
        ·intro w';go_simp;with_reducible rfl
        rotate_left
        ·simp only [Act.put,s1,s2,s3,i64_w,i32_w];rfl
        refine take_ (i:=6) (N:=some 69) (v:=?_) (a':=?_) (tf 7 15) rfl rfl (by kernel_rfl) (fun _ _ _ h=>h) (Or.inl ⟨by rfl,?_⟩) hHeld ?_ ?_;rotate_left
        ·rintro w' ⟨s0,s1,s2,s3,s4,s5,s6⟩;go_simp;with_reducible rfl
        rotate_left
        ·simp only [Act.put,s1,s2,s3,i64_w,i32_w];rfl
        refine pure_ (i:=7) (N:=some 70) (v:=?_) (a':=?_) (tf 8 14) rfl rfl (by kernel_rfl) (fun _ _ _ h=>h) (Or.inl ⟨by rfl,?_⟩) ?_ ?_;rotate_left
        ·intro w';go_simp;with_reducible rfl
        rotate_left
        ·simp only [Act.put,s1,s2,s3,i64_w,i32_w];rfl
        refine pure_ (i:=8) (N:=some 71) (v:=?_) (a':=?_) (tf 9 13) rfl rfl (by kernel_rfl) (fun _ _ _ h=>h) (Or.inl ⟨by rfl,?_⟩) ?_ ?_;rotate_left
        ·intro w';go_simp;with_reducible rfl
        rotate_left
        ·simp only [Act.put,s1,s2,s3,i64_w,i32_w];rfl
        refine take_ (i:=9) (N:=some 72) (v:=?_) (a':=?_) (tf 10 12) rfl rfl (by kernel_rfl) (fun _ _ _ h=>h) (Or.inl ⟨by rfl,?_⟩) hHeld ?_ ?_;rotate_left
        ·rintro w' ⟨s0,s1,s2,s3,s4,s5,s6⟩;go_simp;with_reducible rfl
        rotate_left
        ·simp only [Act.put,s1,s2,s3,i64_w,i32_w];rfl
        refine pure_ (i:=10) (N:=some 73) (v:=?_) (a':=?_) (tf 11 11) rfl rfl (by kernel_rfl) (fun _ _ _ h=>h) (Or.inl ⟨by rfl,?_⟩) ?_ ?_;rotate_left
        ·intro w';go_simp;with_reducible rfl
        rotate_left
        ·simp only [Act.put,s1,s2,s3,i64_w,i32_w];rfl
        refine pure_ (i:=11) (N:=some 74) (v:=?_) (a':=?_) (tf 12 10) rfl rfl (by kernel_rfl) (fun _ _ _ h=>h) (Or.inl ⟨by rfl,?_⟩) ?_ ?_;rotate_left
        ·intro w';go_simp;with_reducible rfl
        rotate_left
        ·simp only [Act.put,s1,s2,s3,i64_w,i32_w];rfl
        refine pure_ (i:=12) (N:=some 75) (v:=?_) (a':=?_) (tf 13 9) rfl rfl (by kernel_rfl) (fun _ _ _ h=>h) (Or.inl ⟨by rfl,?_⟩) ?_ ?_;rotate_left
        ·intro w';go_simp;with_reducible rfl
        rotate_left
        ·simp only [Act.put,s1,s2,s3,i64_w,i32_w];rfl
        refine pure_ (i:=13) (N:=some 76) (v:=undef) (a':=?_) (tf 14 8) rfl rfl (by kernel_rfl) (fun _ _ _ h=>h) (Or.inr ⟨by rfl,rfl⟩) ?_ ?_;rotate_left
        ·simp only [Act.put,s1,s2,s3,i64_w,i32_w];rfl
        refine pure_ (i:=14) (N:=some 77) (v:=undef) (a':=?_) (tf 15 7) rfl rfl (by kernel_rfl) (fun _ _ _ h=>h) (Or.inr ⟨by rfl,rfl⟩) ?_ ?_;rotate_left
        ·simp only [Act.put,s1,s2,s3,i64_w,i32_w];rfl
        refine pure_ (i:=15) (N:=some 78) (v:=undef) (a':=?_) (tf 16 6) rfl rfl (by kernel_rfl) (fun _ _ _ h=>h) (Or.inr ⟨by rfl,rfl⟩) ?_ ?_;rotate_left
        ·simp only [Act.put,s1,s2,s3,i64_w,i32_w];rfl
        refine pure_ (i:=16) (N:=some 79) (v:=undef) (a':=?_) (tf 17 5) rfl rfl (by kernel_rfl) (fun _ _ _ h=>h) (Or.inr ⟨by rfl,rfl⟩) ?_ ?_;rotate_left
        ·simp only [Act.put,s1,s2,s3,i64_w,i32_w];rfl
        refine pure_ (i:=17) (N:=some 80) (v:=undef) (a':=?_) (tf 18 4) rfl rfl (by kernel_rfl) (fun _ _ _ h=>h) (Or.inr ⟨by rfl,rfl⟩) ?_ ?_;rotate_left
        ·simp only [Act.put,s1,s2,s3,i64_w,i32_w];rfl
        refine pure_ (i:=18) (N:=some 81) (v:=undef) (a':=?_) (tf 19 3) rfl rfl (by kernel_rfl) (fun _ _ _ h=>h) (Or.inr ⟨by rfl,rfl⟩) ?_ ?_;rotate_left
        ·simp only [Act.put,s1,s2,s3,i64_w,i32_w];rfl
        refine pure_ (i:=19) (N:=some 82) (v:=undef) (a':=?_) (tf 20 2) rfl rfl (by kernel_rfl) (fun _ _ _ h=>h) (Or.inr ⟨by rfl,rfl⟩) ?_ ?_;rotate_left
        ·simp only [Act.put,s1,s2,s3,i64_w,i32_w];rfl
        refine pure_ (i:=20) (N:=some 83) (v:=?_) (a':=?_) (tf 21 1) rfl rfl (by kernel_rfl) (fun _ _ _ h=>h) (Or.inl ⟨by rfl,?_⟩) ?_ ?_;rotate_left
        ·intro w';go_simp;with_reducible rfl
        rotate_left
        ·simp only [Act.put,s1,s2,s3,i64_w,i32_w];rfl
        refine pure_ (i:=21) (N:=some 84) (v:=?_) (a':=?_) (tf 22 0) rfl rfl (by kernel_rfl) (fun _ _ _ h=>h) (Or.inl ⟨by rfl,?_⟩) ?_ ?_;rotate_left
        ·intro w';go_simp;with_reducible rfl
        rotate_left
        ·simp only [Act.put,s1,s2,s3,i64_w,i32_w];rfl
        refine done_ (by kernel_rfl) ?_;go_wp2;go_roundg k2
        case measure=>have:=HK1.out;omega
        case rel=>exact ⟨wrap64 (i + 1),rfl,H',⟨by have:=HK1.out;omega⟩,BAe,HMe,HBe⟩
       rw [if_pos c7] at H;have d7:((rd_T99 l1 i).f0 == 1)=true:=beq_iff_eq.2 c7;clear c7
       by_cases c8:0≤(rd_T99 l1 i).f2∧(rd_T99 l1 i).f2 < 8
       case neg=>rw [if_neg c8] at H;cases H
       rw [if_pos c8] at H;have C8:=Aside0.mk c8;obtain ⟨c8,c9⟩:=c8;replace c8:=eq_true c8;replace c9:=eq_true c9
       by_cases c10:(rd_T99 l1 i).f1=rd ws (rd_T99 l1 i).f2
       ·rw [if_pos c10] at H;have d10:((rd_T99 l1 i).f1 != rd ws (rd_T99 l1 i).f2)=false:=bne_eq_false_iff_eq.2 c10;have H':=Aside0.mk H;clear H c10;go_wp2_with (first|((with_reducible refine gate_dst (N:=10) rfl ?_);refine bx (N:=10) (cs:=#[.int .i64 0,.int .i64 0,.int .i64 0,.int .i64 0,.int .i64 0,.int .i64 0]) (t:=99) ?_;intro gn hg w4 hbox hb;have BN0:=Aside0.mk hbox;have HX0:=Aside0.mk hb;have GN:=Aside0.mk (show wr.heap.size≤gn by rw [hg];exact Nat.le_refl _);have hz0:w4.cell? ⟨gn,0,none⟩=some (.int .i64 0):=(blk_cell BN0.out 0).trans rfl;have hfz0:=blk_frozen BN0.out 0;have hz1:w4.cell? ⟨gn,1,none⟩=some (.int .i64 0):=(blk_cell BN0.out 1).trans rfl;have hfz1:=blk_frozen BN0.out 1;have hz2:w4.cell? ⟨gn,2,none⟩=some (.int .i64 0):=(blk_cell BN0.out 2).trans rfl;have hfz2:=blk_frozen BN0.out 2;have hz3:w4.cell? ⟨gn,3,none⟩=some (.int .i64 0):=(blk_cell BN0.out 3).trans rfl;have hfz3:=blk_frozen BN0.out 3;have hz4:w4.cell? ⟨gn,4,none⟩=some (.int .i64 0):=(blk_cell BN0.out 4).trans rfl;have hfz4:=blk_frozen BN0.out 4;have hz5:w4.cell? ⟨gn,5,none⟩=some (.int .i64 0):=(blk_cell BN0.out 5).trans rfl;have hfz5:=blk_frozen BN0.out 5;clear hg hbox hb));have hb6:Below wr.heap.size wr ((((((w4.setCell ⟨gn,0,none⟩ (.int .i64 (rd_T99 l1 i).f0)).setCell ⟨gn,1,none⟩ (.int .i64 (rd_T99 l1 i).f1)).setCell ⟨gn,2,none⟩ (.int .i64 (rd_T99 l1 i).f2)).setCell ⟨gn,3,none⟩ (.int .i64 (rd_T99 l1 i).f3)).setCell ⟨gn,4,none⟩ (.int .i64 (rd_T99 l1 i).f4)).setCell ⟨gn,5,none⟩ (.int .i64 (rd_T99 l1 i).f5)):=below_set (below_set (below_set (below_set (below_set (below_set (HX0.out) GN.out) GN.out) GN.out) GN.out) GN.out) GN.out;have BNd:Aside0 (((((((w4.setCell ⟨gn,0,none⟩ (.int .i64 (rd_T99 l1 i).f0)).setCell ⟨gn,1,none⟩ (.int .i64 (rd_T99 l1 i).f1)).setCell ⟨gn,2,none⟩ (.int .i64 (rd_T99 l1 i).f2)).setCell ⟨gn,3,none⟩ (.int .i64 (rd_T99 l1 i).f3)).setCell ⟨gn,4,none⟩ (.int .i64 (rd_T99 l1 i).f4)).setCell ⟨gn,5,none⟩ (.int .i64 (rd_T99 l1 i).f5)).heap[gn]? = some (.cells #[.int .i64 (rd_T99 l1 i).f0,.int .i64 (rd_T99 l1 i).f1,.int .i64 (rd_T99 l1 i).f2,.int .i64 (rd_T99 l1 i).f3,.int .i64 (rd_T99 l1 i).f4,.int .i64 (rd_T99 l1 i).f5] 99 (0,0))):=⟨blk_put (cs:=#[.int .i64 (rd_T99 l1 i).f0,.int .i64 (rd_T99 l1 i).f1,.int .i64 (rd_T99 l1 i).f2,.int .i64 (rd_T99 l1 i).f3,.int .i64 (rd_T99 l1 i).f4,.int .i64 0]) (blk_put (cs:=#[.int .i64 (rd_T99 l1 i).f0,.int .i64 (rd_T99 l1 i).f1,.int .i64 (rd_T99 l1 i).f2,.int .i64 (rd_T99 l1 i).f3,.int .i64 0,.int .i64 0]) (blk_put (cs:=#[.int .i64 (rd_T99 l1 i).f0,.int .i64 (rd_T99 l1 i).f1,.int .i64 (rd_T99 l1 i).f2,.int .i64 0,.int .i64 0,.int .i64 0]) (blk_put (cs:=#[.int .i64 (rd_T99 l1 i).f0,.int .i64 (rd_T99 l1 i).f1,.int .i64 0,.int .i64 0,.int .i64 0,.int .i64 0]) (blk_put (cs:=#[.int .i64 (rd_T99 l1 i).f0,.int .i64 0,.int .i64 0,.int .i64 0,.int .i64 0,.int .i64 0]) (blk_put (cs:=#[.int .i64 0,.int .i64 0,.int .i64 0,.int .i64 0,.int .i64 0,.int .i64 0]) (BN0.out) 0 (.int .i64 (rd_T99 l1 i).f0) rfl) 1 (.int .i64 (rd_T99 l1 i).f1) rfl) 2 (.int .i64 (rd_T99 l1 i).f2) rfl) 3 (.int .i64 (rd_T99 l1 i).f3) rfl) 4 (.int .i64 (rd_T99 l1 i).f4) rfl) 5 (.int .i64 (rd_T99 l1 i).f5) rfl⟩;clear hz0 hfz0 hz1 hfz1 hz2 hfz2 hz3 hfz3 hz4 hfz4 hz5 hfz5 BN0 HX0;generalize ((((((w4.setCell ⟨gn,0,none⟩ (.int .i64 (rd_T99 l1 i).f0)).setCell ⟨gn,1,none⟩ (.int .i64 (rd_T99 l1 i).f1)).setCell ⟨gn,2,none⟩ (.int .i64 (rd_T99 l1 i).f2)).setCell ⟨gn,3,none⟩ (.int .i64 (rd_T99 l1 i).f3)).setCell ⟨gn,4,none⟩ (.int .i64 (rd_T99 l1 i).f4)).setCell ⟨gn,5,none⟩ (.int .i64 (rd_T99 l1 i).f5))=w5 at BNd hb6 ⊢;replace hb6:=below_drew1 hb6;replace BNd:=Aside0.mk (blk_drew BNd.out);have HBd:=Aside0.mk (below_step HB.out hb6);have BAd:=Aside0.mk (blk_below BA.out hb6);have HMd:=Aside0.mk (Kd.R_below HM.out hb6)
        have HCM:=Aside0.mk ((hb6.cell (World.block_lt_of_cell? wr _ HCM0.out)).trans HCM0.out);have HCA:=Aside0.mk (arr_cell (blk_below BA.out hb6) _ C8.out.1 (by have:=HL.out;have:=C8.out.2;omega));clear hb6;refine start_ (n:=22) (S:=fun w'=>w'.cell? ⟨gn,0,none⟩=some (.int .i64 (rd_T99 l1 i).f0)∧w'.cell? ⟨gn,1,none⟩=some (.int .i64 (rd_T99 l1 i).f1)∧w'.cell? ⟨gn,2,none⟩=some (.int .i64 (rd_T99 l1 i).f2)∧w'.cell? ⟨gn,3,none⟩=some (.int .i64 (rd_T99 l1 i).f3)∧w'.cell? ⟨gn,4,none⟩=some (.int .i64 (rd_T99 l1 i).f4)∧w'.cell? ⟨gn,5,none⟩=some (.int .i64 (rd_T99 l1 i).f5)∧w'.cell? (adm.add i.toNat)=some (.bool true)∧w'.cell? ⟨ga,(rd_T99 l1 i).f2.toNat,none⟩=some (.int .i64 (rd ws (rd_T99 l1 i).f2))) (ds:=[]) (tf 0 22) (by kernel_rfl) rfl rfl ⟨(blk_cell BNd.out 0).trans rfl,(blk_cell BNd.out 1).trans rfl,(blk_cell BNd.out 2).trans rfl,(blk_cell BNd.out 3).trans rfl,(blk_cell BNd.out 4).trans rfl,(blk_cell BNd.out 5).trans rfl,HCM.out,HCA.out⟩ (fun hHeld=>?_);generalize w5.drew=w6 at BNd HBd BAd HMd HCM HCA hHeld ⊢;refine take_ (i:=0) (N:=some 63) (v:=?_) (a':=?_) (tf 1 21) rfl rfl (by kernel_rfl) (fun _ _ _ h=>h) (Or.inl ⟨by rfl,?_⟩) hHeld ?_ ?_;rotate_left
        ·rintro w' ⟨s0,s1,s2,s3,s4,s5,s6,s7⟩;go_simp;with_reducible rfl
        rotate_left
        ·simp only [Act.put,s1,s2,s3,i64_w,i32_w];rfl
        refine one_ (i:=1) (N:=some 64) (tf 2 20) rfl rfl (by kernel_rfl) (by decide) (fun K hK=>?_);refine goes_ Try.func123 (by kernel_rfl) rfl #[.agg #[.int .i64 (rd_T99 l1 i).f0,.int .i64 (rd_T99 l1 i).f1,.int .i64 (rd_T99 l1 i).f2,.int .i64 (rd_T99 l1 i).f3,.int .i64 (rd_T99 l1 i).f4,.int .i64 (rd_T99 l1 i).f5]] (by rfl) rfl rfl (by simp only [List.map_toArray,List.map_cons,List.map_nil];rfl) ?_
        with_reducible refine (impl_isQuant.calls (rd_T99 l1 i).f0 (rd_T99 l1 i).f1 (rd_T99 l1 i).f2 (rd_T99 l1 i).f3 (rd_T99 l1 i).f4 (rd_T99 l1 i).f5 false _ HQ.out).mono ?_
        rintro e w7 ⟨rfl,hb⟩;refine ⟨_,rfl,?_⟩;have BNe:=Aside0.mk (blk_below BNd.out hb);have BAe:=Aside0.mk (blk_below BAd.out hb);have HBe:=Aside0.mk (below_step HBd.out hb);have HMe:=Aside0.mk (Kd.R_below HMd.out hb);have hcm2:=(hb.cell (World.block_lt_of_cell? w6 _ HCM.out)).trans HCM.out;have hca2:=(hb.cell (World.block_lt_of_cell? w6 _ HCA.out)).trans HCA.out;refine hK.out _ _ ⟨(blk_cell BNe.out 0).trans rfl,(blk_cell BNe.out 1).trans rfl,(blk_cell BNe.out 2).trans rfl,(blk_cell BNe.out 3).trans rfl,(blk_cell BNe.out 4).trans rfl,(blk_cell BNe.out 5).trans rfl,hcm2,hca2⟩ (fun hHeld=>?_);clear hK K;refine norm_ (a':=?_) ?_ ?_;rotate_left
        ·show Act.put _ (some 64) _=_
         simp only [Act.put,s1,s2,s3,i64_w,i32_w];rfl
        refine pure_ (i:=2) (N:=some 65) (v:=?_) (a':=?_) (tf 3 19) rfl rfl (by kernel_rfl) (fun _ _ _ h=>h) (Or.inl ⟨by rfl,?_⟩) ?_ ?_;rotate_left
        ·intro w';go_simp;with_reducible rfl
        rotate_left
        ·simp only [Act.put,s1,s2,s3,i64_w,i32_w];rfl
        refine pure_ (i:=3) (N:=some 66) (v:=?_) (a':=?_) (tf 4 18) rfl rfl (by kernel_rfl) (fun _ _ _ h=>h) (Or.inl ⟨by rfl,?_⟩) ?_ ?_;rotate_left
        ·intro w';go_simp;with_reducible rfl
        rotate_left
        ·simp only [Act.put,s1,s2,s3,i64_w,i32_w];rfl
        refine pure_ (i:=4) (N:=some 67) (v:=?_) (a':=?_) (tf 5 17) rfl rfl (by kernel_rfl) (fun _ _ _ h=>h) (Or.inl ⟨by rfl,?_⟩) ?_ ?_;rotate_left
        ·intro w';go_simp;with_reducible rfl
        rotate_left
        ·simp only [Act.put,s1,s2,s3,i64_w,i32_w];rfl
        refine pure_ (i:=5) (N:=some 68) (v:=?_) (a':=?_) (tf 6 16) rfl rfl (by kernel_rfl) (fun _ _ _ h=>h) (Or.inl ⟨by rfl,?_⟩) ?_ ?_;rotate_left
        ·intro w';go_simp;with_reducible rfl
        rotate_left
        ·simp only [Act.put,s1,s2,s3,i64_w,i32_w];rfl
        refine take_ (i:=6) (N:=some 69) (v:=?_) (a':=?_) (tf 7 15) rfl rfl (by kernel_rfl) (fun _ _ _ h=>h) (Or.inl ⟨by rfl,?_⟩) hHeld ?_ ?_;rotate_left
        ·rintro w' ⟨s0,s1,s2,s3,s4,s5,s6,s7⟩;go_simp;with_reducible rfl
        rotate_left
        ·simp only [Act.put,s1,s2,s3,i64_w,i32_w];rfl
        refine pure_ (i:=7) (N:=some 70) (v:=?_) (a':=?_) (tf 8 14) rfl rfl (by kernel_rfl) (fun _ _ _ h=>h) (Or.inl ⟨by rfl,?_⟩) ?_ ?_;rotate_left
        ·intro w';go_simp;with_reducible rfl
        rotate_left
        ·simp only [Act.put,s1,s2,s3,i64_w,i32_w];rfl
        refine pure_ (i:=8) (N:=some 71) (v:=?_) (a':=?_) (tf 9 13) rfl rfl (by kernel_rfl) (fun _ _ _ h=>h) (Or.inl ⟨by rfl,?_⟩) ?_ ?_;rotate_left
        ·intro w';go_simp;with_reducible rfl
        rotate_left
        ·simp only [Act.put,s1,s2,s3,i64_w,i32_w];rfl
        refine take_ (i:=9) (N:=some 72) (v:=?_) (a':=?_) (tf 10 12) rfl rfl (by kernel_rfl) (fun _ _ _ h=>h) (Or.inl ⟨by rfl,?_⟩) hHeld ?_ ?_;rotate_left
        ·rintro w' ⟨s0,s1,s2,s3,s4,s5,s6,s7⟩;go_simp;with_reducible rfl
        rotate_left
        ·simp only [Act.put,s1,s2,s3,i64_w,i32_w];rfl
        refine pure_ (i:=10) (N:=some 73) (v:=?_) (a':=?_) (tf 11 11) rfl rfl (by kernel_rfl) (fun _ _ _ h=>h) (Or.inl ⟨by rfl,?_⟩) ?_ ?_;rotate_left
        ·intro w';go_simp;with_reducible rfl
        rotate_left
        ·simp only [Act.put,s1,s2,s3,i64_w,i32_w];rfl
        refine pure_ (i:=11) (N:=some 74) (v:=?_) (a':=?_) (tf 12 10) rfl rfl (by kernel_rfl) (fun _ _ _ h=>h) (Or.inl ⟨by rfl,?_⟩) ?_ ?_;rotate_left
        ·intro w';go_simp;with_reducible rfl
        rotate_left
        ·simp only [Act.put,s1,s2,s3,i64_w,i32_w];rfl
        refine pure_ (i:=12) (N:=some 75) (v:=?_) (a':=?_) (tf 13 9) rfl rfl (by kernel_rfl) (fun _ _ _ h=>h) (Or.inl ⟨by rfl,?_⟩) ?_ ?_;rotate_left
        ·intro w';go_simp;with_reducible rfl
        rotate_left
        ·simp only [Act.put,s1,s2,s3,i64_w,i32_w];rfl
        refine pure_ (i:=13) (N:=some 76) (v:=?_) (a':=?_) (tf 14 8) rfl rfl (by kernel_rfl) (fun _ _ _ h=>h) (Or.inl ⟨by rfl,?_⟩) ?_ ?_;rotate_left
        ·intro w';go_simp;with_reducible rfl
        rotate_left
        ·simp only [Act.put,s1,s2,s3,i64_w,i32_w];rfl
        refine pure_ (i:=15) (N:=some 78) (v:=?_) (a':=?_) #[true,true,true,true,true,true,true,true,true,true,true,true,true,true,false,true,false,false,false,false,false,false] rfl rfl (by kernel_rfl) (fun _ _ _ h=>h) (Or.inl ⟨by rfl,?_⟩) ?_ ?_;rotate_left
        ·intro w';go_simp;with_reducible rfl
        rotate_left
        ·simp only [Act.put,s1,s2,s3,i64_w,i32_w];rfl
        refine take_ (i:=14) (N:=some 77) (v:=?_) (a':=?_) (tf 16 6) rfl rfl (by kernel_rfl) (fun _ _ _ h=>h) (Or.inl ⟨by rfl,?_⟩) hHeld ?_ ?_;rotate_left
        ·rintro w' ⟨s0,s1,s2,s3,s4,s5,s6,s7⟩;go_simp;with_reducible rfl
        rotate_left
        ·simp only [Act.put,s1,s2,s3,i64_w,i32_w];rfl
        refine take_ (i:=16) (N:=some 79) (v:=?_) (a':=?_) (tf 17 5) rfl rfl (by kernel_rfl) (fun _ _ _ h=>h) (Or.inl ⟨by rfl,?_⟩) hHeld ?_ ?_;rotate_left
        ·rintro w' ⟨s0,s1,s2,s3,s4,s5,s6,s7⟩;go_simp;with_reducible rfl
        rotate_left
        ·simp only [Act.put,s1,s2,s3,i64_w,i32_w];rfl
        refine pure_ (i:=17) (N:=some 80) (v:=?_) (a':=?_) (tf 18 4) rfl rfl (by kernel_rfl) (fun _ _ _ h=>h) (Or.inl ⟨by rfl,?_⟩) ?_ ?_;rotate_left
        ·intro w';go_simp;with_reducible rfl
        rotate_left
        ·simp only [Act.put,s1,s2,s3,i64_w,i32_w];rfl
        refine take_ (i:=18) (N:=some 81) (v:=?_) (a':=?_) (tf 19 3) rfl rfl (by kernel_rfl) (fun _ _ _ h=>h) (Or.inl ⟨by rfl,?_⟩) hHeld ?_ ?_;rotate_left
        ·rintro w' ⟨s0,s1,s2,s3,s4,s5,s6,s7⟩;go_simp;with_reducible rfl
        rotate_left
        ·simp only [Act.put,s1,s2,s3,i64_w,i32_w];rfl
        refine pure_ (i:=19) (N:=some 82) (v:=?_) (a':=?_) (tf 20 2) rfl rfl (by kernel_rfl) (fun _ _ _ h=>h) (Or.inl ⟨by rfl,?_⟩) ?_ ?_;rotate_left
        ·intro w';go_simp;with_reducible rfl
        rotate_left
        ·simp only [Act.put,s1,s2,s3,i64_w,i32_w];rfl
        refine pure_ (i:=20) (N:=some 83) (v:=?_) (a':=?_) (tf 21 1) rfl rfl (by kernel_rfl) (fun _ _ _ h=>h) (Or.inl ⟨by rfl,?_⟩) ?_ ?_;rotate_left
        ·intro w';go_simp;with_reducible rfl
        rotate_left
        ·simp only [Act.put,s1,s2,s3,i64_w,i32_w];rfl
        refine pure_ (i:=21) (N:=some 84) (v:=?_) (a':=?_) (tf 22 0) rfl rfl (by kernel_rfl) (fun _ _ _ h=>h) (Or.inl ⟨by rfl,?_⟩) ?_ ?_;rotate_left
        ·intro w';go_simp;with_reducible rfl
        rotate_left
        ·simp only [Act.put,s1,s2,s3,i64_w,i32_w];rfl
        refine done_ (by kernel_rfl) ?_;go_wp2;go_roundg k2
        case measure=>have:=HK1.out;omega
        case rel=>exact ⟨wrap64 (i + 1),rfl,H',⟨by have:=HK1.out;omega⟩,BAe,HMe,HBe⟩
       ·rw [if_neg c10] at H;have d10:((rd_T99 l1 i).f1 != rd ws (rd_T99 l1 i).f2)=true:=bne_iff_ne.2 c10;obtain rfl:=os H;clear H c10;go_wp2_with (first|((with_reducible refine gate_dst (N:=10) rfl ?_);refine bx (N:=10) (cs:=#[.int .i64 0,.int .i64 0,.int .i64 0,.int .i64 0,.int .i64 0,.int .i64 0]) (t:=99) ?_;intro gn hg w4 hbox hb;have BN0:=Aside0.mk hbox;have HX0:=Aside0.mk hb;have GN:=Aside0.mk (show wr.heap.size≤gn by rw [hg];exact Nat.le_refl _);have hz0:w4.cell? ⟨gn,0,none⟩=some (.int .i64 0):=(blk_cell BN0.out 0).trans rfl;have hfz0:=blk_frozen BN0.out 0;have hz1:w4.cell? ⟨gn,1,none⟩=some (.int .i64 0):=(blk_cell BN0.out 1).trans rfl;have hfz1:=blk_frozen BN0.out 1;have hz2:w4.cell? ⟨gn,2,none⟩=some (.int .i64 0):=(blk_cell BN0.out 2).trans rfl;have hfz2:=blk_frozen BN0.out 2;have hz3:w4.cell? ⟨gn,3,none⟩=some (.int .i64 0):=(blk_cell BN0.out 3).trans rfl;have hfz3:=blk_frozen BN0.out 3;have hz4:w4.cell? ⟨gn,4,none⟩=some (.int .i64 0):=(blk_cell BN0.out 4).trans rfl;have hfz4:=blk_frozen BN0.out 4;have hz5:w4.cell? ⟨gn,5,none⟩=some (.int .i64 0):=(blk_cell BN0.out 5).trans rfl;have hfz5:=blk_frozen BN0.out 5;clear hg hbox hb));have hb6:Below wr.heap.size wr ((((((w4.setCell ⟨gn,0,none⟩ (.int .i64 (rd_T99 l1 i).f0)).setCell ⟨gn,1,none⟩ (.int .i64 (rd_T99 l1 i).f1)).setCell ⟨gn,2,none⟩ (.int .i64 (rd_T99 l1 i).f2)).setCell ⟨gn,3,none⟩ (.int .i64 (rd_T99 l1 i).f3)).setCell ⟨gn,4,none⟩ (.int .i64 (rd_T99 l1 i).f4)).setCell ⟨gn,5,none⟩ (.int .i64 (rd_T99 l1 i).f5)):=below_set (below_set (below_set (below_set (below_set (below_set (HX0.out) GN.out) GN.out) GN.out) GN.out) GN.out) GN.out;have BNd:Aside0 (((((((w4.setCell ⟨gn,0,none⟩ (.int .i64 (rd_T99 l1 i).f0)).setCell ⟨gn,1,none⟩ (.int .i64 (rd_T99 l1 i).f1)).setCell ⟨gn,2,none⟩ (.int .i64 (rd_T99 l1 i).f2)).setCell ⟨gn,3,none⟩ (.int .i64 (rd_T99 l1 i).f3)).setCell ⟨gn,4,none⟩ (.int .i64 (rd_T99 l1 i).f4)).setCell ⟨gn,5,none⟩ (.int .i64 (rd_T99 l1 i).f5)).heap[gn]? = some (.cells #[.int .i64 (rd_T99 l1 i).f0,.int .i64 (rd_T99 l1 i).f1,.int .i64 (rd_T99 l1 i).f2,.int .i64 (rd_T99 l1 i).f3,.int .i64 (rd_T99 l1 i).f4,.int .i64 (rd_T99 l1 i).f5] 99 (0,0))):=⟨blk_put (cs:=#[.int .i64 (rd_T99 l1 i).f0,.int .i64 (rd_T99 l1 i).f1,.int .i64 (rd_T99 l1 i).f2,.int .i64 (rd_T99 l1 i).f3,.int .i64 (rd_T99 l1 i).f4,.int .i64 0]) (blk_put (cs:=#[.int .i64 (rd_T99 l1 i).f0,.int .i64 (rd_T99 l1 i).f1,.int .i64 (rd_T99 l1 i).f2,.int .i64 (rd_T99 l1 i).f3,.int .i64 0,.int .i64 0]) (blk_put (cs:=#[.int .i64 (rd_T99 l1 i).f0,.int .i64 (rd_T99 l1 i).f1,.int .i64 (rd_T99 l1 i).f2,.int .i64 0,.int .i64 0,.int .i64 0]) (blk_put (cs:=#[.int .i64 (rd_T99 l1 i).f0,.int .i64 (rd_T99 l1 i).f1,.int .i64 0,.int .i64 0,.int .i64 0,.int .i64 0]) (blk_put (cs:=#[.int .i64 (rd_T99 l1 i).f0,.int .i64 0,.int .i64 0,.int .i64 0,.int .i64 0,.int .i64 0]) (blk_put (cs:=#[.int .i64 0,.int .i64 0,.int .i64 0,.int .i64 0,.int .i64 0,.int .i64 0]) (BN0.out) 0 (.int .i64 (rd_T99 l1 i).f0) rfl) 1 (.int .i64 (rd_T99 l1 i).f1) rfl) 2 (.int .i64 (rd_T99 l1 i).f2) rfl) 3 (.int .i64 (rd_T99 l1 i).f3) rfl) 4 (.int .i64 (rd_T99 l1 i).f4) rfl) 5 (.int .i64 (rd_T99 l1 i).f5) rfl⟩;clear hz0 hfz0 hz1 hfz1 hz2 hfz2 hz3 hfz3 hz4 hfz4 hz5 hfz5 BN0 HX0;generalize ((((((w4.setCell ⟨gn,0,none⟩ (.int .i64 (rd_T99 l1 i).f0)).setCell ⟨gn,1,none⟩ (.int .i64 (rd_T99 l1 i).f1)).setCell ⟨gn,2,none⟩ (.int .i64 (rd_T99 l1 i).f2)).setCell ⟨gn,3,none⟩ (.int .i64 (rd_T99 l1 i).f3)).setCell ⟨gn,4,none⟩ (.int .i64 (rd_T99 l1 i).f4)).setCell ⟨gn,5,none⟩ (.int .i64 (rd_T99 l1 i).f5))=w5 at BNd hb6 ⊢;replace hb6:=below_drew1 hb6;replace BNd:=Aside0.mk (blk_drew BNd.out);have HBd:=Aside0.mk (below_step HB.out hb6);have BAd:=Aside0.mk (blk_below BA.out hb6);have HMd:=Aside0.mk (Kd.R_below HM.out hb6)
        have HCM:=Aside0.mk ((hb6.cell (World.block_lt_of_cell? wr _ HCM0.out)).trans HCM0.out);have HCA:=Aside0.mk (arr_cell (blk_below BA.out hb6) _ C8.out.1 (by have:=HL.out;have:=C8.out.2;omega));clear hb6;refine start_ (n:=22) (S:=fun w'=>w'.cell? ⟨gn,0,none⟩=some (.int .i64 (rd_T99 l1 i).f0)∧w'.cell? ⟨gn,1,none⟩=some (.int .i64 (rd_T99 l1 i).f1)∧w'.cell? ⟨gn,2,none⟩=some (.int .i64 (rd_T99 l1 i).f2)∧w'.cell? ⟨gn,3,none⟩=some (.int .i64 (rd_T99 l1 i).f3)∧w'.cell? ⟨gn,4,none⟩=some (.int .i64 (rd_T99 l1 i).f4)∧w'.cell? ⟨gn,5,none⟩=some (.int .i64 (rd_T99 l1 i).f5)∧w'.cell? (adm.add i.toNat)=some (.bool true)∧w'.cell? ⟨ga,(rd_T99 l1 i).f2.toNat,none⟩=some (.int .i64 (rd ws (rd_T99 l1 i).f2))) (ds:=[]) (tf 0 22) (by kernel_rfl) rfl rfl ⟨(blk_cell BNd.out 0).trans rfl,(blk_cell BNd.out 1).trans rfl,(blk_cell BNd.out 2).trans rfl,(blk_cell BNd.out 3).trans rfl,(blk_cell BNd.out 4).trans rfl,(blk_cell BNd.out 5).trans rfl,HCM.out,HCA.out⟩ (fun hHeld=>?_);generalize w5.drew=w6 at BNd HBd BAd HMd HCM HCA hHeld ⊢;refine take_ (i:=0) (N:=some 63) (v:=?_) (a':=?_) (tf 1 21) rfl rfl (by kernel_rfl) (fun _ _ _ h=>h) (Or.inl ⟨by rfl,?_⟩) hHeld ?_ ?_;rotate_left
        ·rintro w' ⟨s0,s1,s2,s3,s4,s5,s6,s7⟩;go_simp;with_reducible rfl
        rotate_left
        ·simp only [Act.put,s1,s2,s3,i64_w,i32_w];rfl
        refine one_ (i:=1) (N:=some 64) (tf 2 20) rfl rfl (by kernel_rfl) (by decide) (fun K hK=>?_);refine goes_ Try.func123 (by kernel_rfl) rfl #[.agg #[.int .i64 (rd_T99 l1 i).f0,.int .i64 (rd_T99 l1 i).f1,.int .i64 (rd_T99 l1 i).f2,.int .i64 (rd_T99 l1 i).f3,.int .i64 (rd_T99 l1 i).f4,.int .i64 (rd_T99 l1 i).f5]] (by rfl) rfl rfl (by simp only [List.map_toArray,List.map_cons,List.map_nil];rfl) ?_
        with_reducible refine (impl_isQuant.calls (rd_T99 l1 i).f0 (rd_T99 l1 i).f1 (rd_T99 l1 i).f2 (rd_T99 l1 i).f3 (rd_T99 l1 i).f4 (rd_T99 l1 i).f5 false _ HQ.out).mono ?_
        rintro e w7 ⟨rfl,hb⟩;refine ⟨_,rfl,?_⟩;have BNe:=Aside0.mk (blk_below BNd.out hb);have BAe:=Aside0.mk (blk_below BAd.out hb);have HBe:=Aside0.mk (below_step HBd.out hb);have HMe:=Aside0.mk (Kd.R_below HMd.out hb);have hcm2:=(hb.cell (World.block_lt_of_cell? w6 _ HCM.out)).trans HCM.out;have hca2:=(hb.cell (World.block_lt_of_cell? w6 _ HCA.out)).trans HCA.out;refine hK.out _ _ ⟨(blk_cell BNe.out 0).trans rfl,(blk_cell BNe.out 1).trans rfl,(blk_cell BNe.out 2).trans rfl,(blk_cell BNe.out 3).trans rfl,(blk_cell BNe.out 4).trans rfl,(blk_cell BNe.out 5).trans rfl,hcm2,hca2⟩ (fun hHeld=>?_);clear hK K;refine norm_ (a':=?_) ?_ ?_;rotate_left
        ·show Act.put _ (some 64) _=_
         simp only [Act.put,s1,s2,s3,i64_w,i32_w];rfl
        refine pure_ (i:=2) (N:=some 65) (v:=?_) (a':=?_) (tf 3 19) rfl rfl (by kernel_rfl) (fun _ _ _ h=>h) (Or.inl ⟨by rfl,?_⟩) ?_ ?_;rotate_left
        ·intro w';go_simp;with_reducible rfl
        rotate_left
        ·simp only [Act.put,s1,s2,s3,i64_w,i32_w];rfl
        refine pure_ (i:=3) (N:=some 66) (v:=?_) (a':=?_) (tf 4 18) rfl rfl (by kernel_rfl) (fun _ _ _ h=>h) (Or.inl ⟨by rfl,?_⟩) ?_ ?_;rotate_left
        ·intro w';go_simp;with_reducible rfl
        rotate_left
        ·simp only [Act.put,s1,s2,s3,i64_w,i32_w];rfl
        refine pure_ (i:=4) (N:=some 67) (v:=?_) (a':=?_) (tf 5 17) rfl rfl (by kernel_rfl) (fun _ _ _ h=>h) (Or.inl ⟨by rfl,?_⟩) ?_ ?_;rotate_left
        ·intro w';go_simp;with_reducible rfl
        rotate_left
        ·simp only [Act.put,s1,s2,s3,i64_w,i32_w];rfl
        refine pure_ (i:=5) (N:=some 68) (v:=?_) (a':=?_) (tf 6 16) rfl rfl (by kernel_rfl) (fun _ _ _ h=>h) (Or.inl ⟨by rfl,?_⟩) ?_ ?_;rotate_left
        ·intro w';go_simp;with_reducible rfl
        rotate_left
        ·simp only [Act.put,s1,s2,s3,i64_w,i32_w];rfl
        refine take_ (i:=6) (N:=some 69) (v:=?_) (a':=?_) (tf 7 15) rfl rfl (by kernel_rfl) (fun _ _ _ h=>h) (Or.inl ⟨by rfl,?_⟩) hHeld ?_ ?_;rotate_left
        ·rintro w' ⟨s0,s1,s2,s3,s4,s5,s6,s7⟩;go_simp;with_reducible rfl
        rotate_left
        ·simp only [Act.put,s1,s2,s3,i64_w,i32_w];rfl
        refine pure_ (i:=7) (N:=some 70) (v:=?_) (a':=?_) (tf 8 14) rfl rfl (by kernel_rfl) (fun _ _ _ h=>h) (Or.inl ⟨by rfl,?_⟩) ?_ ?_;rotate_left
        ·intro w';go_simp;with_reducible rfl
        rotate_left
        ·simp only [Act.put,s1,s2,s3,i64_w,i32_w];rfl
        refine pure_ (i:=8) (N:=some 71) (v:=?_) (a':=?_) (tf 9 13) rfl rfl (by kernel_rfl) (fun _ _ _ h=>h) (Or.inl ⟨by rfl,?_⟩) ?_ ?_;rotate_left
        ·intro w';go_simp;with_reducible rfl
        rotate_left
        ·simp only [Act.put,s1,s2,s3,i64_w,i32_w];rfl
        refine take_ (i:=9) (N:=some 72) (v:=?_) (a':=?_) (tf 10 12) rfl rfl (by kernel_rfl) (fun _ _ _ h=>h) (Or.inl ⟨by rfl,?_⟩) hHeld ?_ ?_;rotate_left
        ·rintro w' ⟨s0,s1,s2,s3,s4,s5,s6,s7⟩;go_simp;with_reducible rfl
        rotate_left
        ·simp only [Act.put,s1,s2,s3,i64_w,i32_w];rfl
        refine pure_ (i:=10) (N:=some 73) (v:=?_) (a':=?_) (tf 11 11) rfl rfl (by kernel_rfl) (fun _ _ _ h=>h) (Or.inl ⟨by rfl,?_⟩) ?_ ?_;rotate_left
        ·intro w';go_simp;with_reducible rfl
        rotate_left
        ·simp only [Act.put,s1,s2,s3,i64_w,i32_w];rfl
        refine pure_ (i:=11) (N:=some 74) (v:=?_) (a':=?_) (tf 12 10) rfl rfl (by kernel_rfl) (fun _ _ _ h=>h) (Or.inl ⟨by rfl,?_⟩) ?_ ?_;rotate_left
        ·intro w';go_simp;with_reducible rfl
        rotate_left
        ·simp only [Act.put,s1,s2,s3,i64_w,i32_w];rfl
        refine pure_ (i:=12) (N:=some 75) (v:=?_) (a':=?_) (tf 13 9) rfl rfl (by kernel_rfl) (fun _ _ _ h=>h) (Or.inl ⟨by rfl,?_⟩) ?_ ?_;rotate_left
        ·intro w';go_simp;with_reducible rfl
        rotate_left
        ·simp only [Act.put,s1,s2,s3,i64_w,i32_w];rfl
        refine pure_ (i:=13) (N:=some 76) (v:=?_) (a':=?_) (tf 14 8) rfl rfl (by kernel_rfl) (fun _ _ _ h=>h) (Or.inl ⟨by rfl,?_⟩) ?_ ?_;rotate_left
        ·intro w';go_simp;with_reducible rfl
        rotate_left
        ·simp only [Act.put,s1,s2,s3,i64_w,i32_w];rfl
        refine pure_ (i:=15) (N:=some 78) (v:=?_) (a':=?_) #[true,true,true,true,true,true,true,true,true,true,true,true,true,true,false,true,false,false,false,false,false,false] rfl rfl (by kernel_rfl) (fun _ _ _ h=>h) (Or.inl ⟨by rfl,?_⟩) ?_ ?_;rotate_left
        ·intro w';go_simp;with_reducible rfl
        rotate_left
        ·simp only [Act.put,s1,s2,s3,i64_w,i32_w];rfl
        refine take_ (i:=14) (N:=some 77) (v:=?_) (a':=?_) (tf 16 6) rfl rfl (by kernel_rfl) (fun _ _ _ h=>h) (Or.inl ⟨by rfl,?_⟩) hHeld ?_ ?_;rotate_left
        ·rintro w' ⟨s0,s1,s2,s3,s4,s5,s6,s7⟩;go_simp;with_reducible rfl
        rotate_left
        ·simp only [Act.put,s1,s2,s3,i64_w,i32_w];rfl
        refine take_ (i:=16) (N:=some 79) (v:=?_) (a':=?_) (tf 17 5) rfl rfl (by kernel_rfl) (fun _ _ _ h=>h) (Or.inl ⟨by rfl,?_⟩) hHeld ?_ ?_;rotate_left
        ·rintro w' ⟨s0,s1,s2,s3,s4,s5,s6,s7⟩;go_simp;with_reducible rfl
        rotate_left
        ·simp only [Act.put,s1,s2,s3,i64_w,i32_w];rfl
        refine pure_ (i:=17) (N:=some 80) (v:=?_) (a':=?_) (tf 18 4) rfl rfl (by kernel_rfl) (fun _ _ _ h=>h) (Or.inl ⟨by rfl,?_⟩) ?_ ?_;rotate_left
        ·intro w';go_simp;with_reducible rfl
        rotate_left
        ·simp only [Act.put,s1,s2,s3,i64_w,i32_w];rfl
        refine take_ (i:=18) (N:=some 81) (v:=?_) (a':=?_) (tf 19 3) rfl rfl (by kernel_rfl) (fun _ _ _ h=>h) (Or.inl ⟨by rfl,?_⟩) hHeld ?_ ?_;rotate_left
        ·rintro w' ⟨s0,s1,s2,s3,s4,s5,s6,s7⟩;go_simp;with_reducible rfl
        rotate_left
        ·simp only [Act.put,s1,s2,s3,i64_w,i32_w];rfl
        refine pure_ (i:=19) (N:=some 82) (v:=?_) (a':=?_) (tf 20 2) rfl rfl (by kernel_rfl) (fun _ _ _ h=>h) (Or.inl ⟨by rfl,?_⟩) ?_ ?_;rotate_left
        ·intro w';go_simp;with_reducible rfl
        rotate_left
        ·simp only [Act.put,s1,s2,s3,i64_w,i32_w];rfl
        refine pure_ (i:=20) (N:=some 83) (v:=?_) (a':=?_) (tf 21 1) rfl rfl (by kernel_rfl) (fun _ _ _ h=>h) (Or.inl ⟨by rfl,?_⟩) ?_ ?_;rotate_left
        ·intro w';go_simp;with_reducible rfl
        rotate_left
        ·simp only [Act.put,s1,s2,s3,i64_w,i32_w];rfl
        refine pure_ (i:=21) (N:=some 84) (v:=?_) (a':=?_) (tf 22 0) rfl rfl (by kernel_rfl) (fun _ _ _ h=>h) (Or.inl ⟨by rfl,?_⟩) ?_ ?_;rotate_left
        ·intro w';go_simp;with_reducible rfl
        rotate_left
        ·simp only [Act.put,s1,s2,s3,i64_w,i32_w];rfl
        refine done_ (by kernel_rfl) ?_;go_wp2;go_ret;exact ⟨rfl,HBe.out⟩
      ·rw [if_neg c3] at H;have d3:decide (i < (l1.length:Int))=false:=decide_eq_false c3;clear c3;obtain rfl:=os H;clear H;go_wp2;go_ret;exact ⟨rfl,HB.out⟩
def impl_sign.f (a0:Int):Option (Int):=some ((wrap64 (48 + (Go.bits .and .i64 a0 1))) % 256)
set_option maxHeartbeats 8000000 in
set_option maxRecDepth 100000 in
theorem impl_sign.calls (a0:Int) (r:Int) (w:World) (h:impl_sign.f a0=some r) :
  Calls Try.prog 88 #[.int .i64 a0] w fun e w'=>e = .returned (.int .u8 r)∧Drawn0 w w':=by
 have H:(some ((wrap64 (48 + (Go.bits .and .i64 a0 1))) % 256))=some r:=h;clear h;obtain rfl:=os H
 go_enter Try.func88,Try.ntmps88
 go_wp2;go_ret;exact ⟨e1,dn⟩
end Go.Proofs.Ythipjoioicmcnaa.G
