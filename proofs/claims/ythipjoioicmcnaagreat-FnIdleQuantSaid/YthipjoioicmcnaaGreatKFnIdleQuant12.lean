-- texts of this session, merged by a program of it (wip/gen/pack.py)
import Derived.Test.YthipjoioicmcnaaGreatKFnIdleQuant2
import Derived.Test.YthipjoioicmcnaaGreatKFnIdleQuant6
import Derived.Test.YthipjoioicmcnaaGreatKFnIdleQuant3
import Derived.Test.YthipjoioicmcnaaGreatKFnIdleQuant9
import Derived.Test.YthipjoioicmcnaaGreatKFnIdleQuant10
import Derived.Test.YthipjoioicmcnaaGreatKFnIdleQuant11
import Derived.Laws.BitsLemmas
import Derived.Test.YthipjoioicmcnaaGreatKFnIdleQuant4
set_option linter.unusedVariables false
set_option linter.unusedSimpArgs false
set_option maxHeartbeats 80000000
set_option maxRecDepth 100000
namespace Go.Proofs.YthipjoioicmcnaaGreat.G
open Go.RowKit Go.Proofs.YthipjoioicmcnaaGreatW.PrintWords Go.Proofs.YthipjoioicmcnaaGreatW.PrintLast Go.Proofs.YthipjoioicmcnaaGreatW.PrintMore Go.Proofs.YthipjoioicmcnaaGreat.Sh
attribute [local go_sem] max2_int min2_int max_two min_two max_three min_three max_four min_four
mutual
def laws_FnIdleQuant.l0:Nat→List Int→List (S31)→List (S52)→List Bool→Int→Option (Bool)
 | 0,_,_,_,_,_=>none
 | k + 1,x0,x4,x5,x7,x8=>if x8 < 8 then (if x7.length < 140737488355328 then (laws_FnIdleQuant.l0 k x0 x4 x5 (x7 ++ [false]) (wrap64 (x8 + 1))) else (none)) else (laws_FnIdleQuant.l1 k x0 x4 x5 x7 0)
def laws_FnIdleQuant.l1:Nat→List Int→List (S31)→List (S52)→List Bool→Int→Option (Bool)
 | 0,_,_,_,_,_=>none
 | k + 1,x0,x4,x5,x7,x9=>if x9 < (x4.length:Int) then (if 0≤x9 then (if 0≤((rd_T31 x4 x9).f1) then (if ((rd_T31 x4 x9).f1) < (x7.length:Int) then (laws_FnIdleQuant.l1 k x0 x4 x5 (x7.set (((rd_T31 x4 x9).f1):Int).toNat true) (wrap64 (x9 + 1))) else (none)) else (none)) else (none)) else (laws_FnIdleQuant.l2 k x0 x4 x5 x7 0)
def laws_FnIdleQuant.j3:Nat→List Int→List (S31)→List (S52)→Int→Option (Bool)
 | 0,_,_,_,_=>none
 | k + 1,x0,x4,x5,x10=>(impl_HoldsFront.f k x4 x5).bind fun bt121=>((spec_HoldsFront.f k x4 x5).bind fun bt123=>(if (bt121.2 != bt123.2)=true then (laws_FnIdleQuant.j4 k x0 x4 x5 x10 bt121.1 bt121.2 bt123.1 bt123.2 true) else (if bt121.1=bt123.1 then (laws_FnIdleQuant.j4 k x0 x4 x5 x10 bt121.1 bt121.2 bt123.1 bt123.2 (x10 == 8)) else (laws_FnIdleQuant.j4 k x0 x4 x5 x10 bt121.1 bt121.2 bt123.1 bt123.2 true))))
def laws_FnIdleQuant.j4:Nat→List Int→List (S31)→List (S52)→Int→Int→Bool→Int→Bool→Bool→Option (Bool)
 | 0,_,_,_,_,_,_,_,_,_=>none
 | k + 1,x0,x4,x5,x10,x11,x12,x13,x14,x83=>if x83=true then (if (x12 == x14)=true then (some (x11 == x13)) else (some false)) else ((laws_at.f x0 3).bind fun An=>(if (wrap64 ((x4.length:Int) + 1))=0 then (none) else ((some (([]:List (S31)):List (S31))).bind fun y126=>(if 0≤(Int.tmod An (wrap64 ((x4.length:Int) + 1))) then (if (Int.tmod An (wrap64 ((x4.length:Int) + 1)))≤(x4.length:Int) then ((some (x4.take ((Int.tmod An (wrap64 ((x4.length:Int) + 1))):Int).toNat:List (S31))).bind fun y129=>(if y126.length + y129.length < 5864062014805 then ((some (y126 ++ y129:List (S31))).bind fun y133=>((laws_at.f x0 4).bind fun Al=>(if y133.length < 5864062014805 then ((some (y133 ++ [(⟨((Int.tmod Al 2) == 0),x10,1⟩:S31)]:List (S31))).bind fun y137=>((some (x4.drop ((Int.tmod An (wrap64 ((x4.length:Int) + 1))):Int).toNat:List (S31))).bind fun y140=>(if y137.length + y140.length < 5864062014805 then ((some (y137 ++ y140:List (S31))).bind fun y144=>((impl_HoldsFront.f k y144 x5).bind fun bt147=>(if bt147.2=true then (if bt147.1=x11 then ((impl_Rows.f k y144).bind fun Ac=>((impl_Rows.f k x4).bind fun Ab=>(some ((Ac.length:Int) == (wrap64 ((Ab.length:Int) + 1)))))) else (some false)) else (some false)))) else (none)))) else (none)))) else (none))) else (none)) else (none)))))
def laws_FnIdleQuant.l2:Nat→List Int→List (S31)→List (S52)→List Bool→Int→Option (Bool)
 | 0,_,_,_,_,_=>none
 | k + 1,x0,x4,x5,x7,x10=>if x10 < 8 then (if 0≤x10 then (if x10 < (x7.length:Int) then (if rdOf false x7 x10=true then (laws_FnIdleQuant.l2 k x0 x4 x5 x7 (wrap64 (x10 + 1))) else (laws_FnIdleQuant.j3 k x0 x4 x5 x10)) else (none)) else (none)) else (laws_FnIdleQuant.j3 k x0 x4 x5 x10)
end
def laws_FnIdleQuant.f (k:Nat) (l0:List Int):Option (Bool):=(laws_big.f l0).bind fun Aw=>(if Aw=true then (some true) else ((spec_DrawSaid.f k l0).bind fun Ap=>((spec_Front.f k Ap).bind fun bt105=>(laws_FnIdleQuant.l0 k l0 bt105.1 bt105.2.1 (([]:List Bool)) 0))))
def laws_FnIdleQuant.T22:Bool × List (List Nat × List Nat):=(true,[([],[]),([],[]),([],[]),([1,2],[1,2]),([0,3],[0,3]),([],[]),([5,4],[5]),([6],[6]),([7],[7]),([],[]),([8,9],[8,9]),([10],[10]),([4,11,6],[4,11]),([],[]),([],[]),([13,14],[13,14]),([12,15,12],[12,15]),([16,16,0,1,2,3,4,5,6,7,8,9,10,11,12,13,14,15,16],[16])])
def laws_FnIdleQuant.B22:List Nat:=[0,0,0,6,15,0,63,127,255,0,1023,2047,4095,0,0,24576,65535,131071]
theorem laws_FnIdleQuant.tab22:rtab .any (opsOf Tryz.f3 22)=laws_FnIdleQuant.T22:=by kernel_rfl
theorem laws_FnIdleQuant.bits22:waitsOk laws_FnIdleQuant.T22.2 laws_FnIdleQuant.B22=true:=by kernel_rfl
theorem laws_FnIdleQuant.calls (k:Nat) (A0:Option Addr) (c0:Nat) (l0:List Int) (r:Bool) (w:World) (hr0:Kd.C (Kd.int .u8) w A0 l0.length l0) (hc0:l0.length≤c0) (ht_:r=true) (h:laws_FnIdleQuant.f k l0=some r) :
  Calls Tryz.prog 3 #[.slice A0 l0.length c0] w fun e w'=>e = .returned (.bool r)∧Below w.heap.size w w':=by
 have hu31:=Tryz.underlying31;have HT:=Aside0.mk ht_;clear ht_;have HR0:=Aside0.mk hr0;have HC0:=Aside0.mk hc0;clear hr0 hc0;have HB:=Aside0.mk (Below.refl w.heap.size w);have H:((laws_big.f l0).bind fun Aw=>(if Aw=true then (some true) else ((spec_DrawSaid.f k l0).bind fun Ap=>((spec_Front.f k Ap).bind fun bt105=>(laws_FnIdleQuant.l0 k l0 bt105.1 bt105.2.1 (([]:List Bool)) 0)))))=some r:=h;clear h;replace H:=ob H;obtain ⟨Aw,A20,H⟩:=H
 try dsimp only at H
 have A2:=Aside0.mk A20;clear A20
 by_cases c3:Aw=true
 ·subst c3
  have H1:(some true)=some r:=by rw [if_pos rfl] at H;exact H
  clear H;have H:=H1;clear H1;obtain rfl:=os H
  go_enter Tryz.func3,Tryz.ntmps3
  go_wp2_with (first|((with_reducible refine gate_callee (f:=5) rfl ?_);refine goesL_ (some 20) rfl rfl Tryz.func5 (by kernel_rfl) rfl #[.slice A0 l0.length c0] rfl ml ?_;(with_reducible refine (laws_big.calls _ _ l0 true _ ?side1 ?side2 A2.out).mono ?_);(case side1=>exact cw HR0.out);(case side2=>exact HC0.out);rintro e w' ⟨rfl,⟨nd,rfl⟩⟩;refine ⟨_,rfl,?_⟩));go_ret;exact ⟨er,tb HB⟩
 ·replace c3:=Bool.eq_false_iff.mpr c3;subst c3
  have H1:((spec_DrawSaid.f k l0).bind fun Ap=>((spec_Front.f k Ap).bind fun bt105=>(laws_FnIdleQuant.l0 k l0 bt105.1 bt105.2.1 (([]:List Bool)) 0)))=some r:=by rw [if_neg (show ¬ (false=true) by decide)] at H;exact H
  clear H;have H:=H1;clear H1;replace H:=ob H;obtain ⟨Ap,A40,H⟩:=H;replace H:((spec_Front.f k Ap).bind fun bt105=>(laws_FnIdleQuant.l0 k l0 bt105.1 bt105.2.1 (([]:List Bool)) 0))=some r:=H;have A4:=Aside0.mk A40;clear A40;replace H:=ob H;obtain ⟨⟨A3,A9,t107⟩,A50,H⟩:=H;replace H:(laws_FnIdleQuant.l0 k l0 A3 A9 (([]:List Bool)) 0)=some r:=H;have A5:=Aside0.mk A50;clear A50;obtain ⟨y112,hy112⟩:∃ y_:List Bool,y_=(([]:List Bool)):=⟨_,rfl⟩;replace H:(laws_FnIdleQuant.l0 k l0 A3 A9 y112 0)=some r:=hy_ hy112 H;have Ny112:=Aside0.mk hy112;clear hy112;have H':=Aside0.mk H;clear H
  go_enter Tryz.func3,Tryz.ntmps3
  go_wp2_with (first|((with_reducible refine gate_callee (f:=5) rfl ?_);refine goesL_ (some 20) rfl rfl Tryz.func5 (by kernel_rfl) rfl #[.slice A0 l0.length c0] rfl ml ?_;(with_reducible refine (laws_big.calls _ _ l0 false _ ?side1 ?side2 A2.out).mono ?_);(case side1=>exact cw HR0.out);(case side2=>exact HC0.out);rintro e w' ⟨rfl,⟨nd,rfl⟩⟩;refine ⟨_,rfl,?_⟩)|((with_reducible refine gate_callee (f:=6) rfl ?_);refine goesL_ (some 22) rfl rfl Tryz.func6 (by kernel_rfl) rfl #[.slice A0 l0.length c0] rfl ml ?_;(with_reducible refine (spec_DrawSaid.calls k _ _ l0 Ap _ ?side1 ?side2 A4.out).mono ?_);(case side1=>exact cw HR0.out);(case side2=>exact HC0.out);rintro e w6 ⟨v103,rfl,ho0,hb⟩;refine ⟨_,rfl,?_⟩;have Ao:=Aside0.mk (Kd.R_lower ho0 (below_size (tb HB)));replace HB:=Aside0.mk (below_step (tb HB) hb);(try clear hb);(try clear hb2);(try clear hk);(try clear hi);(try clear ho0);obtain ⟨Ao7,co7,eo7⟩:=Kd.R_slice Ao.out;subst eo7)|((with_reducible refine gate_callee (f:=7) rfl ?_);refine goesL_ (some 25) rfl rfl Tryz.func7 (by kernel_rfl) rfl #[.slice Ao7 Ap.length co7] rfl ml ?_;(with_reducible refine (spec_Front.calls k _ _ Ap A3 A9 t107 _ ?side1 ?side2 A5.out).mono ?_);(case side1=>exact cw (Kd.R_reads' Ao.out).2.2);(case side2=>exact (Kd.R_reads' Ao.out).2.1);rintro e w8 ⟨v108,v110,rfl,ho0,ho1,hb⟩;refine ⟨_,rfl,?_⟩;have Ax:=Aside0.mk (Kd.R_lower ho0 (below_size (tb HB)));have Ay:=Aside0.mk (Kd.R_lower (Kd.R_new' ho1 (Kd.R_lt (ra Ao))) (below_size (tb HB)));replace Ao:=Aside0.mk (Kd.R_elder' (ra Ao) (Kd.R_base ho1) hb);replace HB:=Aside0.mk (below_step (tb HB) hb);(try clear hb);(try clear hb2);(try clear hk);(try clear hi);(try clear ho0);(try clear ho1))|((with_reducible refine gate_dst (N:=29) rfl ?_);(try (refine gate_guard (by rfl) ?_;dsimp only));refine Kd.R_lit Kd.bool _ 4 ?hg (N:=29) ?hd (xs:=([]:List Bool)) (inner:=[]) (ok:=fun _=>True) (okp:=fun _=>True) ?hr ?hp (fun _ hk=>hk) trivial (Below.refl _ _) (Nat.le_refl _) (by simp) ?_;(case hd=>rfl);(case hg=>rfl);(case hr=>first|(go_simp;done)|(go_simp;rfl));(case hp=>exact (Reps.none _ _));intro v113 w9 ho10 hb hg_ hnew_;clear hg_ hnew_;(first|rw [← Ny112.out] at ho10|(simp only [Int.reduceToNat] at ho10;rw [← Ny112.out] at ho10));replace Ao:=Aside0.mk (Kd.R_below (ra Ao) hb);replace Ax:=Aside0.mk (Kd.R_below (ra Ax) hb);replace Ay:=Aside0.mk (Kd.R_below (ra Ay) hb);have B5:=Aside0.mk (Kd.R_lower ho10 (below_size (tb HB)));replace HB:=Aside0.mk (below_step (tb HB) hb);clear hb ho10))
  go_loopg [7,8] k (fun kq v7 v8 w'=>∃ (At:List Bool) (Ar:Int),v8 = .int .i64 Ar∧Aside0 (laws_FnIdleQuant.l0 kq l0 A3 A9 At Ar=some r)∧Aside0 (kq≤k)∧Aside0 (Kd.R k31 31 w' w.heap.size (fun _=>True) v108 A3)∧Aside0 (Kd.R k52 52 w' w.heap.size (fun _=>True) v110 A9)∧Aside0 (Kd.R Kd.bool 4 w' w.heap.size (fun _=>True) v7 At)∧Aside0 (Below w.heap.size w w'))
  case atStart=>exact ⟨(y112),(0),(by first|rfl|(simp;done)|(simp [*];done)),H',⟨Nat.le_refl _⟩,⟨ra Ax⟩,⟨by (with_reducible repeat (first|apply Kd.R_alloc|apply Kd.R_drewN|apply Kd.R_drew));exact Kd.R_mono Ay.out (fun _ hk=>trivial)⟩,⟨ra B5⟩,⟨by exact tb HB⟩⟩
  case round =>
   clear H';(try clear p2);(try clear c3);(try clear c5);(try clear c6);(try clear c7);obtain ⟨At,Ar,rfl,HA,HK1,A6,A7,Af,HB⟩:=hrel
   cases gk with
   | zero=>exact absurd HA.out (by simp [laws_FnIdleQuant.l0])
   | succ k1 =>
    have H:=HA.out;clear HA;simp only [laws_FnIdleQuant.l0] at H
    by_cases c11:Ar < 8
    ·rw [if_pos c11] at H;have c11b0:decide (Ar < 8)=true:=decide_eq_true c11;clear c11
     by_cases c12:At.length < 140737488355328
     ·rw [if_pos c12] at H;have LMc12:=Aside0.mk c12;clear c12;obtain ⟨y115,hy115⟩:∃ y_:List Bool,y_=(At ++ [false]):=⟨_,rfl⟩;replace H:(laws_FnIdleQuant.l0 k1 l0 A3 A9 y115 (wrap64 (Ar + 1)))=some r:=hy_ hy115 H;have Ny115:=Aside0.mk hy115;clear hy115;have H':=Aside0.mk H;clear H;go_wp2_with (first|((with_reducible refine gate_builtin (b := .append) (xs:=#[.tmp 34,.tmp 35]) rfl ?_);(try (refine gate_guard (by rfl) ?_;dsimp only));at_builtin;refine Kd.R_append Kd.bool (w0:=w) w.heap.size rfl (.tmp 34) (.tmp 35) 29 4 (.bool false) 1 rfl Tryz.underlying29 info4 rfl (by decide) (by omega) u7 At false [.bool false] (fun _=>True) (fun _=>False) rfl rfl ?aP (fun _ hk=>hk.elim) ?aF ?aO ?aB ?aS ?aL ?_;(case aP=>exact rfl);(case aB=>exact (tb HB));(case aF=>exact (fun _ _=>trivial));(case aO=>exact (ra Af));(case aS=>exact (below_size (tb HB)));(case aL=>have:=LMc12.out;omega);intro v116 w13 ho hb hg hat;rw [← Ny115.out] at ho;replace A6:=Aside0.mk (Kd.R_over' (ra A6) (Kd.R_typed (ra Af)) (by decide) hg);replace A7:=Aside0.mk (Kd.R_over' (ra A7) (Kd.R_typed (ra Af)) (by decide) hg);replace HB:=Aside0.mk (hb);have B6:=Aside0.mk (ho);clear Af;clear ho hb hg hat));go_roundg k1
      case measure=>have:=HK1.out;omega
      case rel=>exact ⟨(y115),(wrap64 (Ar + 1)),(by first|rfl|(simp;done)|(simp [*];done)),H',⟨by have:=HK1.out;omega⟩,⟨ra A6⟩,⟨ra A7⟩,⟨ra B6⟩,⟨by exact tb HB⟩⟩
     ·rw [if_neg c12] at H;exact absurd H (by simp)
    ·rw [if_neg c11] at H;have c11b0:decide (Ar < 8)=false:=decide_eq_false c11;clear c11;have H':=Aside0.mk H;clear H;go_wp2
     go_loopg [9] k1 (fun kq v9 w'=>∃ (Ah:List Bool) (Ad:Int),v9 = .int .i64 Ad∧Aside0 (laws_FnIdleQuant.l1 kq l0 A3 A9 Ah Ad=some r)∧Aside0 (kq≤k1)∧Aside0 (Kd.R k31 31 w' w.heap.size (fun _=>True) v108 A3)∧Aside0 (Kd.R k52 52 w' w.heap.size (fun _=>True) v110 A9)∧Aside0 (Kd.R Kd.bool 4 w' w.heap.size (fun _=>True) u7 Ah)∧Aside0 (Below w.heap.size w w'))
     case atStart=>exact ⟨(At),(0),(by first|rfl|(simp;done)|(simp [*];done)),H',⟨Nat.le_refl _⟩,⟨ra A6⟩,⟨ra A7⟩,⟨ra Af⟩,⟨by exact tb HB⟩⟩
     case round =>
      clear H';(try clear c1);(try clear p2);(try clear c3);(try clear c5);(try clear c6);(try clear p6);(try clear c7);(try clear c11);(try clear c11b0);(try clear c12);(try clear p2);obtain ⟨Ah,Ad,rfl,HA,HK2,A6,A7,Af,HB⟩:=hrel
      cases gk with
      | zero=>exact absurd HA.out (by simp [laws_FnIdleQuant.l1])
      | succ k2 =>
       have H:=HA.out;clear HA;simp only [laws_FnIdleQuant.l1] at H
       by_cases c14:Ad < (A3.length:Int)
       ·rw [if_pos c14] at H;have c14b0:decide (Ad < (A3.length:Int))=true:=decide_eq_true c14;clear c14
        by_cases c15:0≤Ad
        ·rw [if_pos c15] at H;have c15b0:decide (0≤Ad)=true:=decide_eq_true c15;clear c15
         by_cases c16:0≤((rd_T31 A3 Ad).f1)
         ·rw [if_pos c16] at H;have c16b0:decide (0≤((rd_T31 A3 Ad).f1))=true:=decide_eq_true c16;clear c16
          by_cases c17:((rd_T31 A3 Ad).f1) < (Ah.length:Int)
          ·rw [if_pos c17] at H;have c17b0:decide (((rd_T31 A3 Ad).f1) < (Ah.length:Int))=true:=decide_eq_true c17;clear c17;obtain ⟨y119,hy119⟩:∃ y_:List Bool,y_=(Ah.set (((rd_T31 A3 Ad).f1):Int).toNat true):=⟨_,rfl⟩;replace H:(laws_FnIdleQuant.l1 k2 l0 A3 A9 y119 (wrap64 (Ad + 1)))=some r:=hy_ hy119 H;have Ny119:=Aside0.mk hy119;clear hy119;have H':=Aside0.mk H;clear H;obtain ⟨Ao19,co19,eo19⟩:=Kd.R_slice A6.out;subst eo19;have p118:0≤(Ad:Int):=od;have q118:Ad < (A3.length:Int):=od;obtain ⟨ad118,e118,hx118_0,hx118_1,hx118_2⟩:=at_T31 (Kd.R_reads' A6.out).2.2 Ad p118 q118;cases e118;replace p118:=eq_true p118;replace q118:=eq_true q118;have p18:0≤(((rd_T31 A3 Ad).f1):Int):=od;have q18:(((rd_T31 A3 Ad).f1):Int) < ((Ah.length:Int):Int):=od;obtain ⟨go18,B4,eo18,B7,gl18,cl18,HG18⟩:=Kd.R_form Af.out (by omega);(first|cases eo18|(injection eo18 with ea_ en_ ec_;(first|subst ea_|(injection ea_ with ea_;subst ea_));subst ec_;clear en_));have GB18:=Aside0.mk B7;have GG18:=Aside0.mk HG18;clear B7 gl18 HG18;obtain ⟨hx18_0,hf18_0⟩:=Kd.R_celln false Af.out (((rd_T31 A3 Ad).f1):Int) p18 q18;replace p18:=eq_true p18;replace q18:=eq_true q18;have HP20:=Kd.R_putg Af.out (((rd_T31 A3 Ad).f1):Int) true;go_wp2_with (first|((with_reducible refine gate_store (t:=4) (p:=49) rfl ?_);refine store_event (t:=4) (p:=49) (v:=?vo_w21) (w1:=(wr.setCell ⟨go18,(((rd_T31 A3 Ad).f1):Int).toNat,none⟩ (.bool true))) ?hg ?ho ?hn ?hr ?_;(case ho=>rfl);(case hg=>rfl);(case hn=>rfl);(case hr=>first|(go_simp;done)|(go_simp;rfl));intro w21 hw;have hg:wr.grownBy w21 (some go18):=(by rw [hw];exact HP20.2);have hp_:Kd.R Kd.bool 4 w21 w.heap.size (fun _=>True) (.slice (some ⟨go18,0,none⟩) Ah.length B4) y119:=(by rw [hw,Ny119.out];exact HP20.1);clear HP20;replace A6:=Aside0.mk (Kd.R_over' (v:=(.slice (some ⟨go18,0,none⟩) Ah.length B4)) (ra A6) (Kd.R_typed Af.out) (by decide) hg);replace A7:=Aside0.mk (Kd.R_over' (v:=(.slice (some ⟨go18,0,none⟩) Ah.length B4)) (ra A7) (Kd.R_typed Af.out) (by decide) hg);replace Af:=Aside0.mk (hp_);replace HB:=Aside0.mk ((by rw [hw];exact below_set (HB.out) GB18.out:Below w.heap.size w w21));clear hg hw hp_));go_roundg k2
           case measure=>have:=HK1.out;have:=HK2.out;omega
           case rel=>exact ⟨(y119),(wrap64 (Ad + 1)),(by first|rfl|(simp;done)|(simp [*];done)),H',⟨by have:=HK1.out;have:=HK2.out;omega⟩,⟨ra A6⟩,⟨ra A7⟩,⟨ra Af⟩,⟨by exact tb HB⟩⟩
          ·rw [if_neg c17] at H;exact absurd H (by simp)
         ·rw [if_neg c16] at H;exact absurd H (by simp)
        ·rw [if_neg c15] at H;exact absurd H (by simp)
       ·rw [if_neg c14] at H;have c14b0:decide (Ad < (A3.length:Int))=false:=decide_eq_false c14;clear c14;have HC22:=Aside0.mk H;clear H;obtain ⟨Ak,Ag,eo23⟩:=Kd.R_slice A6.out;subst eo23
        go_upto_block 4 with (fail)
        go_cut [10] (fun v10 wc=>∃ (kq:Nat) (Aa:Int),v10 = .int .i64 Aa∧Aside0 (laws_FnIdleQuant.j3 kq l0 A3 A9 Aa=some r)∧Aside0 (kq≤k2)∧Aside0 (Kd.R k31 31 wc w.heap.size (fun _=>True) (.slice Ak A3.length Ag) A3)∧Aside0 (Kd.R k52 52 wc w.heap.size (fun _=>True) v110 A9)∧Aside0 (Below w.heap.size w wc))
        case first =>
         have H:=HC22.out;clear HC22;have H':=Aside0.mk H;clear H;go_wp2
         go_loopg [10] k2 (fun kq v10 w'=>∃ (A8:Int),v10 = .int .i64 A8∧Aside0 (laws_FnIdleQuant.l2 kq l0 A3 A9 Ah A8=some r)∧Aside0 (kq≤k2)∧Aside0 (Kd.R k31 31 w' w.heap.size (fun _=>True) (.slice Ak A3.length Ag) A3)∧Aside0 (Kd.R k52 52 w' w.heap.size (fun _=>True) v110 A9)∧Aside0 (Kd.R Kd.bool 4 w' w.heap.size (fun _=>True) u7 Ah)∧Aside0 (Below w.heap.size w w'))
         case atStart=>exact ⟨(0),(by first|rfl|(simp;done)|(simp [*];done)),H',⟨Nat.le_refl _⟩,⟨ra A6⟩,⟨ra A7⟩,⟨ra Af⟩,⟨by exact tb HB⟩⟩
         case round =>
          clear H';(try clear c1);(try clear p1);(try clear q1);(try clear hx1);(try clear hf1);(try clear p2);(try clear c3);(try clear c5);(try clear c6);(try clear p6);(try clear c7);(try clear c11);(try clear c11b0);(try clear p11);(try clear q11);(try clear hx11);(try clear c12);(try clear c14);(try clear c14b0);(try clear c15);(try clear c15b0);(try clear c16);(try clear c16b0);(try clear c17);(try clear c17b0);(try clear p18);(try clear q18);(try clear hx18);(try clear hf18);(try clear hx118_0);(try clear hx118_1);(try clear hx118_2);(try clear hx18_0);(try clear p118);(try clear p18);(try clear p2);(try clear p6);(try clear q118);(try clear q18);obtain ⟨A8,rfl,HA,HK3,A6,A7,Af,HB⟩:=hrel
          cases gk with
          | zero=>exact absurd HA.out (by simp [laws_FnIdleQuant.l2])
          | succ k3 =>
           have H:=HA.out;clear HA;simp only [laws_FnIdleQuant.l2] at H
           by_cases c24:A8 < 8
           ·rw [if_pos c24] at H;have c24b0:decide (A8 < 8)=true:=decide_eq_true c24;clear c24;(first|rw [c24b0]|(simp only [i64_w,i32_w];rw [c24b0])|skip)
            by_cases c25:0≤A8
            ·rw [if_pos c25] at H;have c25b0:decide (0≤A8)=true:=decide_eq_true c25;clear c25
             by_cases c26:A8 < (Ah.length:Int)
             ·rw [if_pos c26] at H;have c26b0:decide (A8 < (Ah.length:Int))=true:=decide_eq_true c26;clear c26;obtain ⟨bq27,hbq27⟩:∃ b_:Bool,b_=(rdOf false Ah A8):=⟨_,rfl⟩
              replace H:(if bq27=true then (laws_FnIdleQuant.l2 k3 l0 A3 A9 Ah (wrap64 (A8 + 1))) else (laws_FnIdleQuant.j3 k3 l0 A3 A9 A8))=some r:=by rw [← hbq27] at H;exact H
              have Nbq27:=Aside0.mk hbq27;clear hbq27
              by_cases c28:bq27=true
              ·subst c28
               have H1:(laws_FnIdleQuant.l2 k3 l0 A3 A9 Ah (wrap64 (A8 + 1)))=some r:=by rw [if_pos rfl] at H;exact H
               clear H;have H:=H1;clear H1;have H':=Aside0.mk H;clear H;obtain ⟨Ao29,co29,eo29⟩:=Kd.R_slice Af.out;subst eo29;have p120:0≤(A8:Int):=od;have q120:A8 < (Ah.length:Int):=od;obtain ⟨ad120,e120,hx120_0⟩:=Kd.at_bool (Kd.R_reads' Af.out).2.2 A8 p120 q120
               (try rw [← Nbq27.out] at hx120_0)
               cases e120;replace p120:=eq_true p120;replace q120:=eq_true q120;go_wp2;go_roundg k3
               case measure=>have:=HK1.out;have:=HK2.out;have:=HK3.out;omega
               case rel=>exact ⟨(wrap64 (A8 + 1)),(by first|rfl|(simp;done)|(simp [*];done)),H',⟨by have:=HK1.out;have:=HK2.out;have:=HK3.out;omega⟩,⟨ra A6⟩,⟨ra A7⟩,⟨ra Af⟩,⟨by exact tb HB⟩⟩
              ·replace c28:=Bool.eq_false_iff.mpr c28;subst c28
               have H1:(laws_FnIdleQuant.j3 k3 l0 A3 A9 A8)=some r:=by rw [if_neg (show ¬ (false=true) by decide)] at H;exact H
               clear H;have H:=H1;clear H1;have H':=Aside0.mk H;clear H;obtain ⟨Ao30,co30,eo30⟩:=Kd.R_slice Af.out;subst eo30;have p120:0≤(A8:Int):=od;have q120:A8 < (Ah.length:Int):=od;obtain ⟨ad120,e120,hx120_0⟩:=Kd.at_bool (Kd.R_reads' Af.out).2.2 A8 p120 q120
               (try rw [← Nbq27.out] at hx120_0)
               cases e120;replace p120:=eq_true p120;replace q120:=eq_true q120;go_wp2;go_meet
               case rel=>exact ⟨_,(A8),(by first|rfl|(simp;done)|(simp [*];done)),H',⟨by have:=HK1.out;have:=HK2.out;have:=HK3.out;first|omega|exact Nat.le_refl _⟩,⟨ra A6⟩,⟨ra A7⟩,⟨by exact tb HB⟩⟩
             ·rw [if_neg c26] at H;exact absurd H (by simp)
            ·rw [if_neg c25] at H;exact absurd H (by simp)
           ·rw [if_neg c24] at H;have c24b0:decide (A8 < 8)=false:=decide_eq_false c24;clear c24;(first|rw [c24b0]|(simp only [i64_w,i32_w];rw [c24b0])|skip);have H':=Aside0.mk H;clear H;go_wp2;go_meet
            case rel=>exact ⟨_,(A8),(by first|rfl|(simp;done)|(simp [*];done)),H',⟨by have:=HK1.out;have:=HK2.out;have:=HK3.out;first|omega|exact Nat.le_refl _⟩,⟨ra A6⟩,⟨ra A7⟩,⟨by exact tb HB⟩⟩
        case rest =>
         clear HC22;(try clear c1);(try clear p1);(try clear q1);(try clear hx1);(try clear hf1);(try clear c2);(try clear p2);(try clear q2);(try clear c3);(try clear c5);(try clear c6);(try clear p6);(try clear c7);(try clear c11);(try clear c11b0);(try clear p11);(try clear q11);(try clear hx11);(try clear c12);(try clear p12);(try clear q12);(try clear hx12);(try clear c14);(try clear c14b0);(try clear c15);(try clear c15b0);(try clear c16);(try clear c16b0);(try clear c17);(try clear c17b0);(try clear p18);(try clear q18);(try clear hx18);(try clear hf18);(try clear c24);(try clear c24b0);(try clear c25);(try clear c25b0);(try clear c26);(try clear c26b0);(try clear q27);(try clear c28);(try clear hx118_0);(try clear hx118_1);(try clear hx118_2);(try clear hx120_0);(try clear hx18_0);(try clear p1);(try clear p11);(try clear p118);(try clear p120);(try clear p18);(try clear p2);(try clear p6);(try clear q1);(try clear q11);(try clear q118);(try clear q120);(try clear q18);obtain ⟨kq,Aa,rfl,HA,HJ21,A6,A7,HB⟩:=hcut
         cases kq with
         | zero=>exact absurd HA.out (by simp [laws_FnIdleQuant.j3])
         | succ kj21 =>
          have H:=HA.out;clear HA;simp only [laws_FnIdleQuant.j3] at H;replace H:=ob H;obtain ⟨⟨Ae,Ai⟩,A310,H⟩:=H
          try dsimp only at H
          have A31:=Aside0.mk A310;clear A310;replace H:=ob H;obtain ⟨⟨As,Aj⟩,A320,H⟩:=H
          try dsimp only at H
          have A32:=Aside0.mk A320;clear A320;have HC33:=Aside0.mk H;clear H;obtain ⟨Az,B0,eo34⟩:=Kd.R_slice A7.out;subst eo34
          go_upto_region 19 with (first|((with_reducible refine gate_callee (f:=8) rfl ?_);refine goesL_ (some 63) rfl rfl Tryz.func8 (by kernel_rfl) rfl #[.slice Ak A3.length Ag,.slice Az A9.length B0] rfl ml ?_;(with_reducible refine (impl_HoldsFront.calls kj21 _ _ A3 _ _ A9 Ae Ai _ ?side1 ?side2 ?side3 ?side4 A31.out).mono ?_);(case side1=>exact cw (Kd.R_reads' A6.out).2.2);(case side2=>exact (Kd.R_reads' A6.out).2.1);(case side3=>exact cw (Kd.R_reads' A7.out).2.2);(case side4=>exact (Kd.R_reads' A7.out).2.1);rintro e w35 ⟨rfl,hb⟩;refine ⟨_,rfl,?_⟩;replace A6:=Aside0.mk (Kd.R_below (ra A6) hb);replace A7:=Aside0.mk (Kd.R_below (ra A7) hb);replace HB:=Aside0.mk (below_step (tb HB) hb);(try clear hb);(try clear hb2);(try clear hk);(try clear hi))|((with_reducible refine gate_callee (f:=9) rfl ?_);refine goesL_ (some 69) rfl rfl Tryz.func9 (by kernel_rfl) rfl #[.slice Ak A3.length Ag,.slice Az A9.length B0] rfl ml ?_;(with_reducible refine (spec_HoldsFront.calls kj21 _ _ A3 _ _ A9 As Aj _ ?side1 ?side2 ?side3 ?side4 A32.out).mono ?_);(case side1=>exact cw (Kd.R_reads' A6.out).2.2);(case side2=>exact (Kd.R_reads' A6.out).2.1);(case side3=>exact cw (Kd.R_reads' A7.out).2.2);(case side4=>exact (Kd.R_reads' A7.out).2.1);rintro e w36 ⟨rfl,hb⟩;refine ⟨_,rfl,?_⟩;replace A6:=Aside0.mk (Kd.R_below (ra A6) hb);replace A7:=Aside0.mk (Kd.R_below (ra A7) hb);replace HB:=Aside0.mk (below_step (tb HB) hb);(try clear hb);(try clear hb2);(try clear hk);(try clear hi)))
          (try simp only [Act.put,List.setIfInBounds_toArray,List.set_cons_zero,List.set_cons_succ])
          go_cut [83] (fun v83 wc=>∃ (kq:Nat) (Aq:Bool),v83 = .bool Aq∧Aside0 (laws_FnIdleQuant.j4 kq l0 A3 A9 Aa Ae Ai As Aj Aq=some r)∧Aside0 (kq≤kj21)∧Aside0 (Kd.R k31 31 wc w.heap.size (fun _=>True) (.slice Ak A3.length Ag) A3)∧Aside0 (Kd.R k52 52 wc w.heap.size (fun _=>True) (.slice Az A9.length B0) A9)∧Aside0 (Below w.heap.size w wc))
          case first =>
           have H:=HC33.out;clear HC33
           by_cases c37:(Ai != Aj)=true
           ·rw [if_pos c37] at H;have c37b0:(Ai != Aj)=true:=c37
            (try (have c37b1:decide (Ai=Aj)=false:=by simpa using c37))
            (try (have c37b2:(Ai == Aj)=false:=by simpa using c37))
            (try (have c37b3:¬ (Ai=Aj):=by simpa using c37))
            clear c37;(first|rw [c37b0]|(simp only [i64_w,i32_w];rw [c37b0])|skip);have H':=Aside0.mk H;clear H;go_wp2;go_meet
            case rel=>exact ⟨_,(true),(by first|rfl|(simp;done)|(simp [*];done)),H',⟨by have:=HK1.out;have:=HK2.out;have:=HJ21.out;first|omega|exact Nat.le_refl _⟩,⟨ra A6⟩,⟨ra A7⟩,⟨by exact tb HB⟩⟩
           ·rw [if_neg c37] at H
            have c37b0:(Ai != Aj)=false:=by simpa using c37
            (try (have c37b1:decide (Ai=Aj)=true:=by simpa using c37))
            (try (have c37b2:(Ai == Aj)=true:=by simpa using c37))
            clear c37;(first|rw [c37b0]|(simp only [i64_w,i32_w];rw [c37b0])|skip)
            by_cases c38:Ae=As
            ·rw [if_pos c38] at H;have c38b0:(Ae == As)=true:=beq_iff_eq.mpr c38;have c38b1:(Ae != As)=false:=bne_eq_false_iff_eq.mpr c38;clear c38;have H':=Aside0.mk H;clear H;go_wp2;go_meet
             case rel=>exact ⟨_,((Aa == 8)),(by first|rfl|(simp;done)|(simp [*];done)),H',⟨by have:=HK1.out;have:=HK2.out;have:=HJ21.out;first|omega|exact Nat.le_refl _⟩,⟨ra A6⟩,⟨ra A7⟩,⟨by exact tb HB⟩⟩
            ·rw [if_neg c38] at H;have c38b0:(Ae == As)=false:=beq_eq_false_iff_ne.mpr c38;have c38b1:(Ae != As)=true:=bne_iff_ne.mpr c38;have H':=Aside0.mk H;clear H;go_wp2;go_meet
             case rel=>exact ⟨_,(true),(by first|rfl|(simp;done)|(simp [*];done)),H',⟨by have:=HK1.out;have:=HK2.out;have:=HJ21.out;first|omega|exact Nat.le_refl _⟩,⟨ra A6⟩,⟨ra A7⟩,⟨by exact tb HB⟩⟩
          case rest =>
           clear HC33;(try clear c1);(try clear p1);(try clear q1);(try clear hx1);(try clear hf1);(try clear c2);(try clear p2);(try clear q2);(try clear c3);(try clear c5);(try clear c6);(try clear p6);(try clear c7);(try clear c8);(try clear c9);(try clear c11);(try clear c11b0);(try clear p11);(try clear q11);(try clear hx11);(try clear c12);(try clear p12);(try clear q12);(try clear hx12);(try clear c14);(try clear c14b0);(try clear c15);(try clear c15b0);(try clear c16);(try clear c16b0);(try clear c17);(try clear c17b0);(try clear p18);(try clear q18);(try clear hx18);(try clear hf18);(try clear c24);(try clear c24b0);(try clear c25);(try clear c25b0);(try clear c26);(try clear c26b0);(try clear q27);(try clear c28);(try clear c37);(try clear c37b0);(try clear c37b1);(try clear c37b2);(try clear c38);(try clear c38b0);(try clear c38b1);(try clear hx118_0);(try clear hx118_1);(try clear hx118_2);(try clear hx120_0);(try clear hx18_0);(try clear p1);(try clear p11);(try clear p118);(try clear p12);(try clear p120);(try clear p18);(try clear p2);(try clear p6);(try clear q1);(try clear q11);(try clear q118);(try clear q12);(try clear q120);(try clear q18);(try clear q2);(try clear q27);obtain ⟨kq,Aq,rfl,HA,HJ32,A6,A7,HB⟩:=hcut
           cases kq with
           | zero=>exact absurd HA.out (by simp [laws_FnIdleQuant.j4])
           | succ kj32 =>
            have H:=HA.out;clear HA;simp only [laws_FnIdleQuant.j4] at H
            by_cases c39:Aq=true
            ·subst c39
             have H1:(if (Ai == Aj)=true then (some (Ae == As)) else (some false))=some r:=by rw [if_pos rfl] at H;exact H
             clear H;have H:=H1;clear H1
             by_cases c40:(Ai == Aj)=true
             ·rw [if_pos c40] at H;have c40b0:(Ai == Aj)=true:=c40
              (try (have c40b1:decide (Ai=Aj)=true:=by simpa using c40))
              (try (have c40b2:(Ai == Aj)=true:=by simpa using c40))
              clear c40;obtain rfl:=os H;go_wp2;go_ret;exact ⟨er,tb HB⟩
             ·rw [if_neg c40] at H
              have c40b0:(Ai == Aj)=false:=by simpa using c40
              (try (have c40b1:decide (Ai=Aj)=false:=by simpa using c40))
              (try (have c40b2:(Ai == Aj)=false:=by simpa using c40))
              (try (have c40b3:¬ (Ai=Aj):=by simpa using c40))
              clear c40;exact absurd ((Option.some.inj H).trans HT.out) (by decide)
            ·replace c39:=Bool.eq_false_iff.mpr c39;subst c39
             have H1:((laws_at.f l0 3).bind fun An=>(if (wrap64 ((A3.length:Int) + 1))=0 then (none) else ((some (([]:List (S31)):List (S31))).bind fun y126=>(if 0≤(Int.tmod An (wrap64 ((A3.length:Int) + 1))) then (if (Int.tmod An (wrap64 ((A3.length:Int) + 1)))≤(A3.length:Int) then ((some (A3.take ((Int.tmod An (wrap64 ((A3.length:Int) + 1))):Int).toNat:List (S31))).bind fun y129=>(if y126.length + y129.length < 5864062014805 then ((some (y126 ++ y129:List (S31))).bind fun y133=>((laws_at.f l0 4).bind fun Al=>(if y133.length < 5864062014805 then ((some (y133 ++ [(⟨((Int.tmod Al 2) == 0),Aa,1⟩:S31)]:List (S31))).bind fun y137=>((some (A3.drop ((Int.tmod An (wrap64 ((A3.length:Int) + 1))):Int).toNat:List (S31))).bind fun y140=>(if y137.length + y140.length < 5864062014805 then ((some (y137 ++ y140:List (S31))).bind fun y144=>((impl_HoldsFront.f kj32 y144 A9).bind fun bt147=>(if bt147.2=true then (if bt147.1=Ae then ((impl_Rows.f kj32 y144).bind fun Ac=>((impl_Rows.f kj32 A3).bind fun Ab=>(some ((Ac.length:Int) == (wrap64 ((Ab.length:Int) + 1)))))) else (some false)) else (some false)))) else (none)))) else (none)))) else (none))) else (none)) else (none)))))=some r:=by rw [if_neg (show ¬ (false=true) by decide)] at H;exact H
             clear H;have H:=H1;clear H1;replace H:=ob H;obtain ⟨An,A410,H⟩:=H
             try dsimp only at H
             have A41:=Aside0.mk A410;clear A410
             by_cases c42:(wrap64 ((A3.length:Int) + 1))=0
             ·rw [if_pos c42] at H;exact absurd H (by simp)
             ·rw [if_neg c42] at H;have c42b0:((wrap64 ((A3.length:Int) + 1)) == 0)=false:=beq_eq_false_iff_ne.mpr c42;have c42b1:((wrap64 ((A3.length:Int) + 1)) != 0)=true:=bne_iff_ne.mpr c42;obtain ⟨y126,hy126⟩:∃ y_:List (S31),y_=(([]:List (S31))):=⟨_,rfl⟩;replace H:(if 0≤(Int.tmod An (wrap64 ((A3.length:Int) + 1))) then (if (Int.tmod An (wrap64 ((A3.length:Int) + 1)))≤(A3.length:Int) then ((some (A3.take ((Int.tmod An (wrap64 ((A3.length:Int) + 1))):Int).toNat:List (S31))).bind fun y129=>(if y126.length + y129.length < 5864062014805 then ((some (y126 ++ y129:List (S31))).bind fun y133=>((laws_at.f l0 4).bind fun Al=>(if y133.length < 5864062014805 then ((some (y133 ++ [(⟨((Int.tmod Al 2) == 0),Aa,1⟩:S31)]:List (S31))).bind fun y137=>((some (A3.drop ((Int.tmod An (wrap64 ((A3.length:Int) + 1))):Int).toNat:List (S31))).bind fun y140=>(if y137.length + y140.length < 5864062014805 then ((some (y137 ++ y140:List (S31))).bind fun y144=>((impl_HoldsFront.f kj32 y144 A9).bind fun bt147=>(if bt147.2=true then (if bt147.1=Ae then ((impl_Rows.f kj32 y144).bind fun Ac=>((impl_Rows.f kj32 A3).bind fun Ab=>(some ((Ac.length:Int) == (wrap64 ((Ab.length:Int) + 1)))))) else (some false)) else (some false)))) else (none)))) else (none)))) else (none))) else (none)) else (none))=some r:=hy_ hy126 H;have Ny126:=Aside0.mk hy126;clear hy126;obtain ⟨ji43,hji43⟩:∃ j_:Int,(Int.tmod An (wrap64 ((A3.length:Int) + 1)))=j_:=⟨_,rfl⟩
              replace H:(if 0≤(ji43) then (if (ji43)≤(A3.length:Int) then ((some (A3.take ((ji43):Int).toNat:List (S31))).bind fun y129=>(if y126.length + y129.length < 5864062014805 then ((some (y126 ++ y129:List (S31))).bind fun y133=>((laws_at.f l0 4).bind fun Al=>(if y133.length < 5864062014805 then ((some (y133 ++ [(⟨((Int.tmod Al 2) == 0),Aa,1⟩:S31)]:List (S31))).bind fun y137=>((some (A3.drop ((ji43):Int).toNat:List (S31))).bind fun y140=>(if y137.length + y140.length < 5864062014805 then ((some (y137 ++ y140:List (S31))).bind fun y144=>((impl_HoldsFront.f kj32 y144 A9).bind fun bt147=>(if bt147.2=true then (if bt147.1=Ae then ((impl_Rows.f kj32 y144).bind fun Ac=>((impl_Rows.f kj32 A3).bind fun Ab=>(some ((Ac.length:Int) == (wrap64 ((Ab.length:Int) + 1)))))) else (some false)) else (some false)))) else (none)))) else (none)))) else (none))) else (none)) else (none))=some r:=by first|(rw [hji43] at H;exact H)|(simp only [hji43] at H ⊢;exact H)
              (try rw [hji43] at A41)
              by_cases c44:0≤(ji43)
              ·rw [if_pos c44] at H;have c44b0:=eq_true c44;have c44b1:decide (0≤(ji43))=true:=decide_eq_true c44;clear c44
               by_cases c45:(ji43)≤(A3.length:Int)
               ·rw [if_pos c45] at H;have c45b0:=eq_true c45;have c45b1:decide ((ji43)≤(A3.length:Int))=true:=decide_eq_true c45;clear c45;obtain ⟨y129,hy129⟩:∃ y_:List (S31),y_=(A3.take ((ji43):Int).toNat):=⟨_,rfl⟩;replace H:(if y126.length + y129.length < 5864062014805 then ((some (y126 ++ y129:List (S31))).bind fun y133=>((laws_at.f l0 4).bind fun Al=>(if y133.length < 5864062014805 then ((some (y133 ++ [(⟨((Int.tmod Al 2) == 0),Aa,1⟩:S31)]:List (S31))).bind fun y137=>((some (A3.drop ((ji43):Int).toNat:List (S31))).bind fun y140=>(if y137.length + y140.length < 5864062014805 then ((some (y137 ++ y140:List (S31))).bind fun y144=>((impl_HoldsFront.f kj32 y144 A9).bind fun bt147=>(if bt147.2=true then (if bt147.1=Ae then ((impl_Rows.f kj32 y144).bind fun Ac=>((impl_Rows.f kj32 A3).bind fun Ab=>(some ((Ac.length:Int) == (wrap64 ((Ab.length:Int) + 1)))))) else (some false)) else (some false)))) else (none)))) else (none)))) else (none))=some r:=hy_ hy129 H;have Ny129:=Aside0.mk hy129;clear hy129
                by_cases c46:y126.length + y129.length < 5864062014805
                ·rw [if_pos c46] at H;have LMc46:=Aside0.mk c46;clear c46;obtain ⟨y133,hy133⟩:∃ y_:List (S31),y_=(y126 ++ y129):=⟨_,rfl⟩;replace H:((laws_at.f l0 4).bind fun Al=>(if y133.length < 5864062014805 then ((some (y133 ++ [(⟨((Int.tmod Al 2) == 0),Aa,1⟩:S31)]:List (S31))).bind fun y137=>((some (A3.drop ((ji43):Int).toNat:List (S31))).bind fun y140=>(if y137.length + y140.length < 5864062014805 then ((some (y137 ++ y140:List (S31))).bind fun y144=>((impl_HoldsFront.f kj32 y144 A9).bind fun bt147=>(if bt147.2=true then (if bt147.1=Ae then ((impl_Rows.f kj32 y144).bind fun Ac=>((impl_Rows.f kj32 A3).bind fun Ab=>(some ((Ac.length:Int) == (wrap64 ((Ab.length:Int) + 1)))))) else (some false)) else (some false)))) else (none)))) else (none)))=some r:=hy_ hy133 H;have Ny133:=Aside0.mk hy133;clear hy133;replace H:=ob H;obtain ⟨Al,A470,H⟩:=H
                 try dsimp only at H
                 have A47:=Aside0.mk A470;clear A470
                 by_cases c48:y133.length < 5864062014805
                 ·rw [if_pos c48] at H;have LMc48:=Aside0.mk c48;clear c48;obtain ⟨y137,hy137⟩:∃ y_:List (S31),y_=(y133 ++ [(⟨((Int.tmod Al 2) == 0),Aa,1⟩:S31)]):=⟨_,rfl⟩;replace H:((some (A3.drop ((ji43):Int).toNat:List (S31))).bind fun y140=>(if y137.length + y140.length < 5864062014805 then ((some (y137 ++ y140:List (S31))).bind fun y144=>((impl_HoldsFront.f kj32 y144 A9).bind fun bt147=>(if bt147.2=true then (if bt147.1=Ae then ((impl_Rows.f kj32 y144).bind fun Ac=>((impl_Rows.f kj32 A3).bind fun Ab=>(some ((Ac.length:Int) == (wrap64 ((Ab.length:Int) + 1)))))) else (some false)) else (some false)))) else (none)))=some r:=hy_ hy137 H;have Ny137:=Aside0.mk hy137;clear hy137;have c49b0:=eq_true (od:0≤(ji43));have c50b0:=eq_true (od:(ji43)≤(A3.length:Int));obtain ⟨y140,hy140⟩:∃ y_:List (S31),y_=(A3.drop ((ji43):Int).toNat):=⟨_,rfl⟩;replace H:(if y137.length + y140.length < 5864062014805 then ((some (y137 ++ y140:List (S31))).bind fun y144=>((impl_HoldsFront.f kj32 y144 A9).bind fun bt147=>(if bt147.2=true then (if bt147.1=Ae then ((impl_Rows.f kj32 y144).bind fun Ac=>((impl_Rows.f kj32 A3).bind fun Ab=>(some ((Ac.length:Int) == (wrap64 ((Ab.length:Int) + 1)))))) else (some false)) else (some false)))) else (none))=some r:=hy_ hy140 H;have Ny140:=Aside0.mk hy140;clear hy140
                  by_cases c51:y137.length + y140.length < 5864062014805
                  ·rw [if_pos c51] at H;have LMc51:=Aside0.mk c51;clear c51;obtain ⟨y144,hy144⟩:∃ y_:List (S31),y_=(y137 ++ y140):=⟨_,rfl⟩;replace H:((impl_HoldsFront.f kj32 y144 A9).bind fun bt147=>(if bt147.2=true then (if bt147.1=Ae then ((impl_Rows.f kj32 y144).bind fun Ac=>((impl_Rows.f kj32 A3).bind fun Ab=>(some ((Ac.length:Int) == (wrap64 ((Ab.length:Int) + 1)))))) else (some false)) else (some false)))=some r:=hy_ hy144 H;have Ny144:=Aside0.mk hy144;clear hy144;replace H:=ob H;obtain ⟨⟨Au,t148⟩,A520,H⟩:=H
                   try dsimp only at H
                   have A52:=Aside0.mk A520;clear A520
                   by_cases c53:t148=true
                   ·subst c53
                    have H1:(if Au=Ae then ((impl_Rows.f kj32 y144).bind fun Ac=>((impl_Rows.f kj32 A3).bind fun Ab=>(some ((Ac.length:Int) == (wrap64 ((Ab.length:Int) + 1)))))) else (some false))=some r:=by rw [if_pos rfl] at H;exact H
                    clear H;have H:=H1;clear H1
                    by_cases c54:Au=Ae
                    ·rw [if_pos c54] at H;have c54b0:(Au == Ae)=true:=beq_iff_eq.mpr c54;have c54b1:(Au != Ae)=false:=bne_eq_false_iff_eq.mpr c54;clear c54;replace H:=ob H;obtain ⟨Ac,A550,H⟩:=H;replace H:((impl_Rows.f kj32 A3).bind fun Ab=>(some ((Ac.length:Int) == (wrap64 ((Ab.length:Int) + 1)))))=some r:=H;have A55:=Aside0.mk A550;clear A550;replace H:=ob H;obtain ⟨Ab,A560,H⟩:=H;replace H:(some ((Ac.length:Int) == (wrap64 ((Ab.length:Int) + 1))))=some r:=H;have A56:=Aside0.mk A560;clear A560;obtain rfl:=os H
                     try go_wp2_with (first|((with_reducible refine gate_callee (f:=10) rfl ?_);refine goesL_ (some 93) rfl rfl Tryz.func10 (by kernel_rfl) rfl #[.slice A0 l0.length c0,.int .i64 3] rfl ml ?_;(with_reducible refine (laws_at.calls _ _ l0 3 An _ ?side1 ?side2 A41.out).mono ?_);(case side1=>exact cw (Kd.C_below HR0.out HB.out));(case side2=>exact HC0.out);rintro e w' ⟨rfl,⟨nd,rfl⟩⟩;refine ⟨_,rfl,?_⟩))
                     (try (rw [drewN_self wc];generalize hq_:World.drewN wc _=wc;have n0_:Aside0 (Kd.R k31 31 wc w.heap.size (fun _=>True) (.slice Ak A3.length Ag) A3):=⟨by rw [← hq_];exact (ra A6)⟩;have n1_:Aside0 (Kd.R k52 52 wc w.heap.size (fun _=>True) (.slice Az A9.length B0) A9):=⟨by rw [← hq_];exact (ra A7)⟩;have n2_:Aside0 (Below w.heap.size w wc):=⟨by rw [← hq_];exact (tb HB)⟩;clear A6 A7 HB hq_;have A6:=n0_;have A7:=n1_;have HB:=n2_;clear n0_ n1_ n2_))
                     have n0_:=Aside0.mk (Kd.R_drew A6.out);have n1_:=Aside0.mk (Kd.R_drew A7.out);have n2_:=Aside0.mk (below_drew1 HB.out);clear A6;clear A7;clear HB;have A6:=n0_;have A7:=n1_;have HB:=n2_;clear n0_ n1_ n2_;have q58:((ji43):Int)≤((A3.length:Int):Int):=od;obtain ⟨i058,hi058,_,hsz58,_⟩:=info_parts info31;have hroom58:A3.length≤Ag:=(Kd.R_reads' A6.out).2.1;have hC58:Kd.C k31 _ Ak A3.length A3:=(Kd.R_reads' A6.out).2.2;have hcut58:=cut_to (P:=Tryz.prog) 26 31 .i64 Tryz.underlying26 hi058 Ak A3.length Ag (ji43) (od) q58 hroom58;have hr58:=Kd.C_take (m:=((ji43):Int).toNat) hC58 (by omega);have hy58:y129.length=((ji43):Int).toNat:=(by rw [Ny129.out,List.length_take];omega);rw [← Ny129.out] at hr58;rw [← hy58] at hcut58;have HR132:=Aside0.mk hr58;have HC132:=Aside0.mk (show y129.length≤Ag from by omega);clear hr58 hC58 hroom58 hi058 hsz58;have KY58:=Aside0.mk hy58;clear hy58;have KL58:=Aside0.mk (show ((ji43):Int).toNat≤A3.length from by omega);replace q58:=eq_true q58;have q59:((ji43):Int)≤((A3.length:Int):Int):=od;obtain ⟨i059,hi059,_,hsz59,_⟩:=info_parts info31;have hroom59:A3.length≤Ag:=(Kd.R_reads' A6.out).2.1;have hC59:Kd.C k31 _ Ak A3.length A3:=(Kd.R_reads' A6.out).2.2;have q059:(0:Int)≤((ji43):Int):=od;have hcut59:=cut_from (P:=Tryz.prog) 26 31 .i64 Tryz.underlying26 hi059 3 hsz59 Ak A3.length Ag (ji43) q059 q59;have hr59:=Kd.C_drop (m:=((ji43):Int).toNat) (c:=Ag) hC59 (by omega) hroom59;obtain ⟨A59,hA59⟩:∃ A1,A1=(if Ag=((ji43):Int).toNat then Ak else (Ak:Option Addr).map (·.add (((ji43):Int).toNat * 3))):=⟨_,rfl⟩;obtain ⟨c59,hc59⟩:∃ c1,c1=Ag - ((ji43):Int).toNat:=⟨_,rfl⟩;have hy59:y140.length=A3.length - ((ji43):Int).toNat:=(by rw [Ny140.out,List.length_drop] <;> omega);rw [show (A3).drop ((ji43):Int).toNat=y140 from Ny140.out.symm] at hr59;replace hr59:Kd.C k31 _ A59 y140.length y140:=(by rw [hA59];exact hr59);rw [← hy59,← hA59,← hc59] at hcut59;have HR143:=Aside0.mk hr59;have HC143:=Aside0.mk (show y140.length≤c59 from by rw [hy59,hc59];exact Nat.sub_le_sub_right hroom59 _);clear hr59 hC59 hroom59 hi059 hsz59 hc59;have KY59:=Aside0.mk hy59;have KA59:=Aside0.mk hA59;clear hy59 hA59;have KL59:=Aside0.mk (show ((ji43):Int).toNat≤A3.length from by omega);replace q59:=eq_true q59;refine start_ (n:=18) (S:=fun w'=>True) (ds:=[]) (tf 0 18) (by kernel_rfl) rfl rfl trivial (fun hHeld=>?_);refine with_tabW laws_FnIdleQuant.tab22 laws_FnIdleQuant.bits22 (fun HT_ HW_=>?_);generalize wc.drew=w57 at A6 A7 HB HR132 HR143 hHeld ⊢;refine pvT HT_ 1 99 #[false,true,false,false,false,false,false,false,false,false,false,false,false,false,false,false,false,false] ?_;refine pvT HT_ 2 100 #[false,true,true,false,false,false,false,false,false,false,false,false,false,false,false,false,false,false] ?_;refine pvT HT_ 3 101 #[false,true,true,true,false,false,false,false,false,false,false,false,false,false,false,false,false,false] ?_;refine pvT HT_ 5 103 #[false,true,true,true,false,true,false,false,false,false,false,false,false,false,false,false,false,false] ?_;refine pvT HT_ 9 107 #[false,true,true,true,false,true,false,false,false,true,false,false,false,false,false,false,false,false] ?_;refine pvT HT_ 13 111 #[false,true,true,true,false,true,false,false,false,true,false,false,false,true,false,false,false,false] ?_;refine pvT HT_ 14 112 #[false,true,true,true,false,true,false,false,false,true,false,false,false,true,true,false,false,false] ?_;refine pvT HT_ 15 113 #[false,true,true,true,false,true,false,false,false,true,false,false,false,true,true,true,false,false] ?_
                     refine one_ (i:=0) (N:=some 98) #[true,true,true,true,false,true,false,false,false,true,false,false,false,true,true,true,false,false] rfl rfl (one_of HT_.out (by kernel_rfl)) (by decide) (fun K hK=>?_);refine Kd.R_lit_step k31 _ 31 ?hg (N:=98) ?hd (xs:=([]:List (S31))) (inner:=[]) (ok:=fun _=>True) (okp:=fun _=>True) ?hr ?hp (fun _ hk=>hk) trivial (Below.refl _ _) (Nat.le_refl _) (by simp) ?_;(case hd=>rfl);(case hg=>rfl);(case hr=>first|(go_simp;done)|(go_simp;rfl));(case hp=>exact (Reps.none _ _));intro v127 w60 ho61 hb hg_ hnew_;clear hg_ hnew_;(first|rw [← Ny126.out] at ho61|(simp only [Int.reduceToNat] at ho61;rw [← Ny126.out] at ho61));have n0_:=Aside0.mk (Kd.R_elder' (ra A6) (Kd.R_base ho61) hb);have n1_:=Aside0.mk (Kd.R_below (ra A7) hb);have n2_:=Aside0.mk (Kd.R_lower (Kd.R_new' ho61 (Kd.R_lt (ra A6))) (below_size (tb HB)));have n3_:=Aside0.mk (Kd.C_below (by repeat (first|(with_reducible exact HR132.out)|(with_reducible refine Kd.C_alloc ?_ _)|(with_reducible refine Kd.C_drewN ?_ _)|(with_reducible refine Kd.C_drew ?_)|exact HR132.out)) hb);have n4_:=Aside0.mk (Kd.C_below (by repeat (first|(with_reducible exact HR143.out)|(with_reducible refine Kd.C_alloc ?_ _)|(with_reducible refine Kd.C_drewN ?_ _)|(with_reducible refine Kd.C_drew ?_)|exact HR143.out)) hb);have n5_:=Aside0.mk (below_step (tb HB) hb);clear A6;clear A7;clear HR132;clear HR143;clear HB;have A6:=n0_;have A7:=n1_;have B1:=n2_;have HR132:=n3_;have HR143:=n4_;have HB:=n5_;clear n0_ n1_ n2_ n3_ n4_ n5_;clear hb ho61;refine hK.out _ _ trivial (fun hHeld=>?_);clear hK K;refine norm_ (a':=?_) ?_ ?_;rotate_left
                     ·show Act.put _ (some 98) _=_
                      simp only [Act.put,s1,s2,s3,i64_w,i32_w];rfl
                     refine one_ (i:=4) (N:=some 102) #[true,true,true,true,true,true,false,false,false,true,false,false,false,true,true,true,false,false] rfl rfl (one_of HT_.out (by kernel_rfl)) (by decide) (fun K hK=>?_);refine Kd.R_append_rows_step k31 (w0:=w) w.heap.size (by rfl) (.tmp 98) (.tmp 101) 26 31 (.agg #[(.bool false),(.int .i64 0),(.int .i64 0)]) 24 rfl Tryz.underlying26 info31 rfl (by decide) (by omega) v127 y126 y129 _ _ _ (fun k_=>some k_≠(.slice Ak A3.length Ag:Value).ownBlock) (fun _=>False) rfl rfl ?aO ?aR (fun _ _ h=>h) (fun _ h=>h.elim) ?aF ?aB ?aS ?aL ?_
                     (case aR=>repeat (first|exact (by repeat (first|(with_reducible exact HR132.out)|(with_reducible refine Kd.C_alloc ?_ _)|(with_reducible refine Kd.C_drewN ?_ _)|(with_reducible refine Kd.C_drew ?_)|exact HR132.out))|(with_reducible refine Kd.C_alloc ?_ _)|(with_reducible refine Kd.C_drewN ?_ _)|(with_reducible refine Kd.C_drew ?_)))
                     (case aB=>exact (tb HB))
                     (case aF=>exact (fun k_ hk=>Kd.fresh' (Kd.R_lt (ra A6)) k_ hk))
                     (case aO=>exact (by (with_reducible repeat (first|apply Kd.R_alloc|apply Kd.R_drewN|apply Kd.R_drew));exact Kd.R_mono B1.out (fun _ hk=>hk.2)))
                     (case aS=>exact (below_size (tb HB)))
                     (case aL=>have:=LMc46.out;omega)
                     intro v134 w62 ho hb hg hat;rw [← Ny133.out] at ho;have n0_:=Aside0.mk (Kd.R_after (ok:=(fun _=>True)) (ra A6) hg hat);have n1_:=Aside0.mk (Kd.R_over' (ra A7) (Kd.R_typed (ra B1)) (by decide) hg);have n2_:=Aside0.mk (hb);have n3_:=Aside0.mk ((show Kd.C k31 w62 Ak y129.length y129 from by rw [Ny129.out];exact Kd.C_take (m:=((ji43):Int).toNat) ((Kd.R_reads' (Kd.R_after (ok:=(fun _=>True)) (ra A6) hg hat)).2.2) KL58.out));have n4_:=Aside0.mk ((show Kd.C k31 w62 A59 y140.length y140 from by rw [Ny140.out,KA59.out];exact Kd.C_drop (m:=((ji43):Int).toNat) (c:=Ag) ((Kd.R_reads' (Kd.R_after (ok:=(fun _=>True)) (ra A6) hg hat)).2.2) KL59.out ((Kd.R_reads' (Kd.R_after (ok:=(fun _=>True)) (ra A6) hg hat)).2.1)));have n5_:=Aside0.mk (ho);clear A6;clear A7;clear HB;clear HR132;clear HR143;clear B1;have A6:=n0_;have A7:=n1_;have HB:=n2_;have HR132:=n3_;have HR143:=n4_;have B2:=n5_;clear n0_ n1_ n2_ n3_ n4_ n5_;clear ho hb hg hat;refine hK.out _ _ trivial (fun hHeld=>?_);clear hK K;refine norm_ (a':=?_) ?_ ?_;rotate_left
                     ·show Act.put _ (some 102) _=_
                      simp only [Act.put,s1,s2,s3,i64_w,i32_w];rfl
                     refine one_ (i:=6) (N:=some 104) #[true,true,true,true,true,true,true,false,false,true,false,false,false,true,true,true,false,false] rfl rfl (one_of HT_.out (by kernel_rfl)) (by decide) (fun K hK=>?_);refine goes_ Tryz.func10 (by kernel_rfl) rfl #[.slice A0 l0.length c0,.int .i64 4] (by rfl) rfl rfl ml ?_
                     with_reducible refine (laws_at.calls _ _ l0 4 Al _ ?side1 ?side2 A47.out).mono ?_
                     (case side1=>exact cw (Kd.C_below HR0.out HB.out))
                     (case side2=>exact HC0.out)
                     rintro e w' ⟨rfl,⟨nd,rfl⟩⟩;refine ⟨_,rfl,?_⟩;refine hK.out _ _ trivial (fun hHeld=>?_);clear hK K;refine norm_ (a':=?_) ?_ ?_;rotate_left
                     ·show Act.put _ (some 104) _=_
                      simp only [Act.put,s1,s2,s3,i64_w,i32_w];rfl
                     refine pvT HT_ 7 105 #[true,true,true,true,true,true,true,true,false,true,false,false,false,true,true,true,false,false] ?_;refine pvT HT_ 8 106 #[true,true,true,true,true,true,true,true,true,true,false,false,false,true,true,true,false,false] ?_;refine pvT HT_ 10 108 #[true,true,true,true,true,true,true,true,true,true,true,false,false,true,true,true,false,false] ?_;refine one_ (i:=11) (N:=some 109) #[true,true,true,true,true,true,true,true,true,true,true,true,false,true,true,true,false,false] rfl rfl (one_of HT_.out (by kernel_rfl)) (by decide) (fun K hK=>?_);refine value_ (w1:=?_) (v:=?_) (by rfl) rfl ?_ ?_;rotate_left 2
                     ·go_simp
                      constructor
                      ·rfl
                      ·rfl
                     refine hK.out _ _ trivial (fun hHeld=>?_);clear hK K;refine norm_ (a':=?_) ?_ ?_;rotate_left
                     ·show Act.put _ (some 109) _=_
                      simp only [Act.put,s1,s2,s3,i64_w,i32_w];rfl
                     refine one_ (i:=12) (N:=some 110) (tf 16 2) rfl rfl (one_of HT_.out (by kernel_rfl)) (by decide) (fun K hK=>?_);refine Kd.R_append_step k31 (w0:=w) w.heap.size (by rfl) (.tmp 102) (.tmp 109) 26 31 (.agg #[(.bool false),(.int .i64 0),(.int .i64 0)]) 24 rfl Tryz.underlying26 info31 rfl (by decide) (by omega) v134 y133 (⟨((Int.tmod Al 2) == 0),Aa,1⟩:S31) [.bool ((Int.tmod Al 2) == 0),.int .i64 Aa,.int .i64 1] (fun k_=>some k_≠(.slice Ak A3.length Ag:Value).ownBlock) (fun _=>False) rfl rfl ?aP (fun _ hk=>hk.elim) ?aF ?aO ?aB ?aS ?aL ?_
                     (case aP=>exact k31_mkM _ _ _ (⟨((Int.tmod Al 2) == 0),Aa,1⟩:S31))
                     (case aB=>exact (tb HB))
                     (case aF=>exact (fun k_ hk=>Kd.fresh' (Kd.R_lt (ra A6)) k_ hk))
                     (case aO=>exact (ra B2))
                     (case aS=>exact (below_size (tb HB)))
                     (case aL=>have:=LMc48.out;omega)
                     intro v138 w63 ho hb hg hat;rw [← Ny137.out] at ho;have n0_:=Aside0.mk (Kd.R_after (ok:=(fun _=>True)) (ra A6) hg hat);have n1_:=Aside0.mk (Kd.R_over' (ra A7) (Kd.R_typed (ra B2)) (by decide) hg);have n2_:=Aside0.mk (hb);have n3_:=Aside0.mk ((show Kd.C k31 w63 Ak y129.length y129 from by rw [Ny129.out];exact Kd.C_take (m:=((ji43):Int).toNat) ((Kd.R_reads' (Kd.R_after (ok:=(fun _=>True)) (ra A6) hg hat)).2.2) KL58.out));have n4_:=Aside0.mk ((show Kd.C k31 w63 A59 y140.length y140 from by rw [Ny140.out,KA59.out];exact Kd.C_drop (m:=((ji43):Int).toNat) (c:=Ag) ((Kd.R_reads' (Kd.R_after (ok:=(fun _=>True)) (ra A6) hg hat)).2.2) KL59.out ((Kd.R_reads' (Kd.R_after (ok:=(fun _=>True)) (ra A6) hg hat)).2.1)));have n5_:=Aside0.mk (ho);clear A6;clear A7;clear HB;clear HR132;clear HR143;clear B2;have A6:=n0_;have A7:=n1_;have HB:=n2_;have HR132:=n3_;have HR143:=n4_;have B3:=n5_;clear n0_ n1_ n2_ n3_ n4_ n5_;clear ho hb hg hat;refine hK.out _ _ trivial (fun hHeld=>?_);clear hK K;refine norm_ (a':=?_) ?_ ?_;rotate_left
                     ·show Act.put _ (some 110) _=_
                      simp only [Act.put,s1,s2,s3,i64_w,i32_w];rfl
                     refine one_ (i:=16) (N:=some 114) (tf 17 1) rfl rfl (one_of HT_.out (by kernel_rfl)) (by decide) (fun K hK=>?_);refine Kd.R_append_rows_step k31 (w0:=w) w.heap.size (by rfl) (.tmp 110) (.tmp 113) 26 31 (.agg #[(.bool false),(.int .i64 0),(.int .i64 0)]) 24 rfl Tryz.underlying26 info31 rfl (by decide) (by omega) v138 y137 y140 _ _ _ (fun k_=>some k_≠(.slice Ak A3.length Ag:Value).ownBlock) (fun _=>False) rfl rfl ?aO ?aR (fun _ _ h=>h) (fun _ h=>h.elim) ?aF ?aB ?aS ?aL ?_
                     (case aR=>repeat (first|exact (by repeat (first|(with_reducible exact HR143.out)|(with_reducible refine Kd.C_alloc ?_ _)|(with_reducible refine Kd.C_drewN ?_ _)|(with_reducible refine Kd.C_drew ?_)|exact HR143.out))|(with_reducible refine Kd.C_alloc ?_ _)|(with_reducible refine Kd.C_drewN ?_ _)|(with_reducible refine Kd.C_drew ?_)))
                     (case aB=>exact (tb HB))
                     (case aF=>exact (fun k_ hk=>Kd.fresh' (Kd.R_lt (ra A6)) k_ hk))
                     (case aO=>exact (ra B3))
                     (case aS=>exact (below_size (tb HB)))
                     (case aL=>have:=LMc51.out;omega)
                     intro v145 w64 ho hb hg hat;rw [← Ny144.out] at ho;have n0_:=Aside0.mk (Kd.R_after (ok:=(fun _=>True)) (ra A6) hg hat);have n1_:=Aside0.mk (Kd.R_over' (ra A7) (Kd.R_typed (ra B3)) (by decide) hg);have n2_:=Aside0.mk (hb);have n3_:=Aside0.mk ((show Kd.C k31 w64 Ak y129.length y129 from by rw [Ny129.out];exact Kd.C_take (m:=((ji43):Int).toNat) ((Kd.R_reads' (Kd.R_after (ok:=(fun _=>True)) (ra A6) hg hat)).2.2) KL58.out));have n4_:=Aside0.mk ((show Kd.C k31 w64 A59 y140.length y140 from by rw [Ny140.out,KA59.out];exact Kd.C_drop (m:=((ji43):Int).toNat) (c:=Ag) ((Kd.R_reads' (Kd.R_after (ok:=(fun _=>True)) (ra A6) hg hat)).2.2) KL59.out ((Kd.R_reads' (Kd.R_after (ok:=(fun _=>True)) (ra A6) hg hat)).2.1)));have n5_:=Aside0.mk (ho);clear A6;clear A7;clear HB;clear HR132;clear HR143;clear B3;have A6:=n0_;have A7:=n1_;have HB:=n2_;have HR132:=n3_;have HR143:=n4_;have Am:=n5_;clear n0_ n1_ n2_ n3_ n4_ n5_;clear ho hb hg hat;refine hK.out _ _ trivial (fun hHeld=>?_);clear hK K;refine norm_ (a':=?_) ?_ ?_;rotate_left
                     ·show Act.put _ (some 114) _=_
                      simp only [Act.put,s1,s2,s3,i64_w,i32_w];rfl
                     refine pvT HT_ 17 16 (tf 18 0) ?_;refine done_ (done_of HT_.out (by kernel_rfl)) ?_;obtain ⟨Ao65,co65,eo65⟩:=Kd.R_slice Am.out;subst eo65
                     try go_wp2_with (first|((with_reducible refine gate_callee (f:=8) rfl ?_);refine goesL_ (some 118) rfl rfl Tryz.func8 (by kernel_rfl) rfl #[.slice Ao65 y144.length co65,.slice Az A9.length B0] rfl ml ?_;(with_reducible refine (impl_HoldsFront.calls kj32 _ _ y144 _ _ A9 Au true _ ?side1 ?side2 ?side3 ?side4 A52.out).mono ?_);(case side1=>exact cw (Kd.R_reads' Am.out).2.2);(case side2=>exact (Kd.R_reads' Am.out).2.1);(case side3=>exact cw (Kd.R_reads' A7.out).2.2);(case side4=>exact (Kd.R_reads' A7.out).2.1);rintro e w66 ⟨rfl,hb⟩;refine ⟨_,rfl,?_⟩;replace A6:=Aside0.mk (Kd.R_below (ra A6) hb);replace A7:=Aside0.mk (Kd.R_below (ra A7) hb);replace Am:=Aside0.mk (Kd.R_below (ra Am) hb);replace HR132:=Aside0.mk (Kd.C_below (by repeat (first|(with_reducible exact HR132.out)|(with_reducible refine Kd.C_alloc ?_ _)|(with_reducible refine Kd.C_drewN ?_ _)|(with_reducible refine Kd.C_drew ?_)|exact HR132.out)) hb);replace HR143:=Aside0.mk (Kd.C_below (by repeat (first|(with_reducible exact HR143.out)|(with_reducible refine Kd.C_alloc ?_ _)|(with_reducible refine Kd.C_drewN ?_ _)|(with_reducible refine Kd.C_drew ?_)|exact HR143.out)) hb);replace HB:=Aside0.mk (below_step (tb HB) hb);(try clear hb);(try clear hb2);(try clear hk);(try clear hi))|(go_at_call 11;(try simp only [i64_w,i32_w]);(with_reducible refine (impl_Rows.calls kj32 _ _ y144 Ac _ ?side1 ?side2 A55.out).mono ?_);(case side1=>exact cw (Kd.R_reads' Am.out).2.2);(case side2=>exact (Kd.R_reads' Am.out).2.1);rintro e w67 ⟨v150,rfl,ho0,hb⟩;replace A6:=Aside0.mk (Kd.R_below (ra A6) hb);replace A7:=Aside0.mk (Kd.R_below (ra A7) hb);replace Am:=Aside0.mk (Kd.R_below (ra Am) hb);have Av:=Aside0.mk (Kd.R_lower ho0 (below_size (tb HB)));replace HR132:=Aside0.mk (Kd.C_below (by repeat (first|(with_reducible exact HR132.out)|(with_reducible refine Kd.C_alloc ?_ _)|(with_reducible refine Kd.C_drewN ?_ _)|(with_reducible refine Kd.C_drew ?_)|exact HR132.out)) hb);replace HR143:=Aside0.mk (Kd.C_below (by repeat (first|(with_reducible exact HR143.out)|(with_reducible refine Kd.C_alloc ?_ _)|(with_reducible refine Kd.C_drewN ?_ _)|(with_reducible refine Kd.C_drew ?_)|exact HR143.out)) hb);replace HB:=Aside0.mk (below_step (tb HB) hb);(try clear hb);(try clear hb2);(try clear hk);(try clear hi);(try clear ho0);obtain ⟨Ao68,co68,eo68⟩:=Kd.R_slice Av.out;subst eo68)|(go_at_call 11;(try simp only [i64_w,i32_w]);(with_reducible refine (impl_Rows.calls kj32 _ _ A3 Ab _ ?side1 ?side2 A56.out).mono ?_);(case side1=>exact cw (Kd.R_reads' A6.out).2.2);(case side2=>exact (Kd.R_reads' A6.out).2.1);rintro e w69 ⟨v153,rfl,ho0,hb⟩;replace A6:=Aside0.mk (Kd.R_below (ra A6) hb);replace A7:=Aside0.mk (Kd.R_below (ra A7) hb);replace Am:=Aside0.mk (Kd.R_below (ra Am) hb);have B8:=Aside0.mk (Kd.R_lower (Kd.R_new' ho0 (Kd.R_lt (ra Av))) (below_size (tb HB)));replace Av:=Aside0.mk (Kd.R_elder' (ra Av) (Kd.R_base ho0) hb);replace HR132:=Aside0.mk (Kd.C_below (by repeat (first|(with_reducible exact HR132.out)|(with_reducible refine Kd.C_alloc ?_ _)|(with_reducible refine Kd.C_drewN ?_ _)|(with_reducible refine Kd.C_drew ?_)|exact HR132.out)) hb);replace HR143:=Aside0.mk (Kd.C_below (by repeat (first|(with_reducible exact HR143.out)|(with_reducible refine Kd.C_alloc ?_ _)|(with_reducible refine Kd.C_drewN ?_ _)|(with_reducible refine Kd.C_drew ?_)|exact HR143.out)) hb);replace HB:=Aside0.mk (below_step (tb HB) hb);(try clear hb);(try clear hb2);(try clear hk);(try clear hi);(try clear ho0);obtain ⟨Ao70,co70,eo70⟩:=Kd.R_slice B8.out;subst eo70))
                     go_ret;exact ⟨by first|rfl|(simp [errW_none,errW_some] <;> rfl)|(simp only [← hji43];first|rfl|(simp [errW_none,errW_some] <;> rfl))|(simp [*,errW_none,errW_some] <;> rfl),tb HB⟩
                    ·rw [if_neg c54] at H;have c54b0:(Au == Ae)=false:=beq_eq_false_iff_ne.mpr c54;have c54b1:(Au != Ae)=true:=bne_iff_ne.mpr c54;exact absurd ((Option.some.inj H).trans HT.out) (by decide)
                   ·replace c53:=Bool.eq_false_iff.mpr c53;subst c53
                    have H1:(some false)=some r:=by rw [if_neg (show ¬ (false=true) by decide)] at H;exact H
                    clear H;have H:=H1;clear H1;exact absurd ((Option.some.inj H).trans HT.out) (by decide)
                  ·rw [if_neg c51] at H;exact absurd H (by simp)
                 ·rw [if_neg c48] at H;exact absurd H (by simp)
                ·rw [if_neg c46] at H;exact absurd H (by simp)
               ·rw [if_neg c45] at H;exact absurd H (by simp)
              ·rw [if_neg c44] at H;exact absurd H (by simp)
end Go.Proofs.YthipjoioicmcnaaGreat.G
namespace Go.Proofs.YthipjoioicmcnaaGreat.Pure
open Go.RowKit Go.Proofs.YthipjoioicmcnaaGreatW.PrintWords Go.Proofs.YthipjoioicmcnaaGreatW.PrintLast Go.Proofs.YthipjoioicmcnaaGreatW.PrintMore
theorem rounds {R:Type} (L:Nat→Nat→Option R) (n:Nat) (r:R) (step:∀ k i,i < n→L (k + 1) i=L k (i + 1)) (stop:∀ k,L (k + 1) n=some r):∀ k,n < k→L k 0=some r:=by
 have h:∀ d i k,i + d=n→d < k→L k i=some r:=by
  intro d
  induction d with
  | zero =>
   intro i k hi hk
   obtain ⟨k,rfl⟩:∃ m,k=m + 1:=⟨k - 1,by omega⟩
   obtain rfl:i=n:=by omega
   exact stop k
  | succ d ih =>
   intro i k hi hk
   obtain ⟨k,rfl⟩:∃ m,k=m + 1:=⟨k - 1,by omega⟩
   rw [step k i (by omega)]
   exact ih (i + 1) k (by omega) (by omega)
 exact fun k hk=>h n 0 k (by omega) hk
theorem rounds_to {R:Type} (L:Nat→Nat→R) (n:Nat) (p:Nat→Bool) (S E:Nat→R) (step:∀ k i,i < n→(∀ j,j < i→p j=true)→p i=true→L (k + 1) i=L k (i + 1))
  (exit:∀ k i,i < n→(∀ j,j < i→p j=true)→p i=false→L (k + 1) i=E k) (stop:∀ k,(∀ j,j < n→p j=true)→L (k + 1) n=S k) :
  ∀ k,n < k→∃ j,k - n - 1≤j∧j < k∧L k 0=if (List.range n).all p then S j else E j:=by
 have h:∀ d i k,i + d=n→d < k→(∀ j,j < i→p j=true)→∃ j,k - d - 1≤j∧j < k∧L k i=if (List.range n).all p then S j else E j:=by
  intro d
  induction d with
  | zero =>
   intro i k hi hk hp
   obtain ⟨k,rfl⟩:∃ m,k=m + 1:=⟨k - 1,by omega⟩
   obtain rfl:i=n:=by omega
   refine ⟨k,by omega,by omega,?_⟩
   rw [stop k hp,if_pos (List.all_eq_true.2 fun x hx=>hp x (by simpa using hx))]
  | succ d ih =>
   intro i k hi hk hp
   obtain ⟨k,rfl⟩:∃ m,k=m + 1:=⟨k - 1,by omega⟩
   cases hpi:p i with
   | true =>
    obtain ⟨j,h1,h2,h3⟩:=ih (i + 1) k (by omega) (by omega) (fun j hj=>by
     rcases Nat.eq_or_lt_of_le (Nat.lt_succ_iff.1 hj) with e|e
     ·exact e ▸ hpi
     ·exact hp j e)
    exact ⟨j,by omega,by omega,(step k i (by omega) hp hpi).trans h3⟩
   | false =>
    refine ⟨k,by omega,by omega,?_⟩
    rw [exit k i (by omega) hp hpi,if_neg (fun ha=>by have:=List.all_eq_true.1 ha i (by simp;omega);rw [hpi] at this;cases this)]
 exact fun k hk=>h n 0 k (by omega) hk (fun j hj=>absurd hj (by omega))
theorem rounds_pre {R:Type} (L:Nat→Nat→Option R) (n:Nat) (p:Nat→Bool) (r bad:R) (step:∀ k i,i < n→(∀ j,j < i→p j=true)→p i=true→L (k + 1) i=L k (i + 1))
  (exit:∀ k i,i < n→(∀ j,j < i→p j=true)→p i=false→L (k + 1) i=some bad) (stop:∀ k,(∀ j,j < n→p j=true)→L (k + 1) n=some r) :
  ∀ k,n < k→L k 0=some (if (List.range n).all p then r else bad):=by
 intro k hk
 obtain ⟨j,_,_,h⟩:=rounds_to L n p (fun _=>some r) (fun _=>some bad) step exit stop k hk
 rw [h]
 split <;> rfl
theorem w64 {n:Int} (h0 : -9223372036854775808≤n) (h1:n≤9223372036854775807):wrap64 n=n:=by
 unfold wrap64
 omega
theorem w64s (i:Nat) (h:i < 4611686018427387904):wrap64 ((i:Int) + 1)=((i + 1:Nat):Int):=by
 rw [w64 (by omega) (by omega)]
 omega
theorem u64_of {a:Int} (h0:0≤a) (h1:a≤18446744073709551615):IntKind.u64.wrap a=a:=by
 have h:IntKind.u64.wrap a=a % 18446744073709551616:=by
  simp [IntKind.wrap,IntKind.bits,IntKind.signed]
 rw [h]
 omega
theorem rd_nat (xs:List Int) (i:Nat):rd xs (i:Int)=xs.getD i 0:=by unfold rd;simp
theorem getD_lt {α:Type} (xs:List α) (i:Nat) (d:α) (h:i < xs.length):xs.getD i d=xs[i]:=by
 rw [List.getD_eq_getElem?_getD,List.getElem?_eq_getElem h]
 rfl
theorem bt_nat (s:ByteArray) (i:Nat) (h:i < s.size):bt s (i:Int)=(s[i].toNat:Int):=by
 unfold bt
 simp [h]
theorem toList_data (s:ByteArray):s.toList=s.data.toList:=ByteArray.toList_eq s
end Go.Proofs.YthipjoioicmcnaaGreat.Pure
namespace Go.Proofs.YthipjoioicmcnaaGreat.Pure
open Go.RowKit Go.Proofs.YthipjoioicmcnaaGreat.G Go.Proofs.YthipjoioicmcnaaGreatW.PrintWords Go.Proofs.YthipjoioicmcnaaGreatW.PrintLast Go.Proofs.YthipjoioicmcnaaGreatW.PrintMore
theorem rounds_all {R:Type} (L:Nat→Nat→Option R) (n:Nat) (p:Nat→Bool) (r bad:R) (step:∀ k i,i < n→p i=true→L (k + 1) i=L k (i + 1)) (exit:∀ k i,i < n→p i=false→L (k + 1) i=some bad)
  (stop:∀ k,L (k + 1) n=some r):∀ k,n < k→L k 0=some (if (List.range n).all p then r else bad) :=
 rounds_pre L n p r bad (fun k i hi _ hp=>step k i hi hp) (fun k i hi _ hp=>exit k i hi hp) (fun k _=>stop k)
def sgn (b:Bool):Int:=if b then 49 else 48
def ones (l:List Bool):ByteArray:=⟨(l.map fun b=>if b then (49:UInt8) else 48).toArray⟩
theorem ones_size (l:List Bool):(ones l).size=l.length:=by
 show (l.map fun b=>if b then (49:UInt8) else 48).toArray.size=_
 simp
theorem bt_ones (l:List Bool) (i:Nat) (h:i < l.length):bt (ones l) (i:Int)=sgn (l.getD i false):=by
 have hs:i < (ones l).size:=by rw [ones_size];exact h
 rw [bt_nat _ i hs,getD_lt l i false h]
 have e:(ones l)[i]=if l[i] then (49:UInt8) else 48:=by
  have h1:(ones l).data.toList[i]? = some (ones l)[i]:=by
   rw [List.getElem?_eq_getElem (by simpa using hs)]
   rfl
  have h2:(ones l).data.toList[i]? = some (if l[i] then (49:UInt8) else 48):=by simp [ones,h]
  exact Option.some.inj (h1.symm.trans h2)
 rw [e]
 unfold sgn
 cases l[i] <;> rfl
theorem data_inj {a b:ByteArray} (h:a.data.toList=b.data.toList):a=b:=by
 cases a;cases b
 simp only [ByteArray.mk.injEq]
 exact Array.toList_inj.1 h
theorem toList_inj {a b:ByteArray}:a.toList=b.toList↔a=b:=by
 rw [toList_data,toList_data]
 exact ⟨data_inj,fun h=>h ▸ rfl⟩
theorem strOfNums_ones (l:List Bool):strOfNums (l.map sgn)=ones l:=by
 unfold strOfNums ones
 congr 2
 rw [List.map_map]
 refine List.map_congr_left fun b _=>?_
 cases b <;> rfl
def tok (N:Int) (s:ByteArray):Bool:=decide (0≤N∧N≤12∧(s.size:Int)=2 ^ N.toNat) && (List.range s.size).all fun (i:Nat)=>bt s (i:Int) == 48 || bt s (i:Int) == 49
theorem tok_form {N:Int} {s:ByteArray} (h:tok N s=true):∃ (n:Nat) (l:List Bool),N=(n:Int)∧n≤12∧l.length=2 ^ n∧s=ones l:=by
  unfold tok at h
  simp only [Bool.and_eq_true,decide_eq_true_eq] at h
  obtain ⟨⟨h0,h1,h2⟩,h3⟩:=h
  obtain ⟨n,rfl⟩:=Int.eq_ofNat_of_zero_le h0
  have h2':s.size=2 ^ n:=by
    rw [Int.toNat_natCast] at h2
    exact_mod_cast h2
  refine ⟨n,(List.range s.size).map fun (i:Nat)=>decide (bt s (i:Int)=49),rfl,by omega,by simp [h2'],?_⟩
  apply data_inj
  apply List.ext_getElem?
  intro i
  rcases Nat.lt_or_ge i s.size with hi|hi
  · have hb:=List.all_eq_true.1 h3 i (by simpa using hi)
    have e:s.data.toList[i]? = some s[i]:=by
      rw [List.getElem?_eq_getElem (by simpa using hi)]
      rfl
    rw [e]
    have hv:=bt_nat s i hi
    simp only [ones,List.map_map,List.getElem?_map,List.getElem?_range hi,Option.map_some,Function.comp]
    congr 1
    simp only [Bool.or_eq_true,beq_iff_eq] at hb
    have hd : ∀ c : UInt8, ((c.toNat : Int) = 48 → c = 48) ∧ ((c.toNat : Int) = 49 → c = 49) := fun c => ⟨fun h => UInt8.toNat_inj.1 (by have : c.toNat = 48 := by omega
                                                                                                                                         rw [this]; rfl), fun h => UInt8.toNat_inj.1 (by have : c.toNat = 49 := by omega
                                                                                                                                                                                         rw [this];rfl)⟩
    rcases hb with hb|hb
    · have hc:=(hd s[i]).1 (hv ▸ hb)
      simp [hb,hc]
    · have hc:=(hd s[i]).2 (hv ▸ hb)
      simp [hb,hc]
  · rw [List.getElem?_eq_none (by simpa using hi),List.getElem?_eq_none (by simp [ones];exact hi)]
theorem tok_ones {n:Nat} {l:List Bool} (hn:n≤12) (hl:l.length=2 ^ n):tok (n:Int) (ones l)=true:=by
 unfold tok
 rw [Bool.and_eq_true]
 refine ⟨decide_eq_true ⟨by omega,by omega,?_⟩,List.all_eq_true.2 fun i hi=>?_⟩
 ·rw [ones_size,hl,Int.toNat_natCast]
  norm_cast
 ·have hi':i < l.length:=by rw [ones_size] at hi;simpa using hi
  rw [bt_ones l i hi']
  unfold sgn
  cases l.getD i false <;> rfl
theorem pow12 {n:Nat} (hn:n≤12):2 ^ n≤4096:=Nat.pow_le_pow_right (by decide) hn
theorem pow62 {n:Nat} (hn:n≤61):(2:Int) ^ n≤2305843009213693952:=by
 have h:2 ^ n≤2 ^ 61:=Nat.pow_le_pow_right (by decide) hn
 have h2:((2 ^ n:Nat):Int)≤((2 ^ 61:Nat):Int):=by exact_mod_cast h
 have h3:((2 ^ n:Nat):Int)=(2:Int) ^ n:=by norm_cast
 omega
theorem pow_pos_ (n:Nat):(1:Int)≤2 ^ n:=by
 have h:1≤2 ^ n:=Nat.one_le_two_pow
 have h2:((1:Nat):Int)≤((2 ^ n:Nat):Int):=by exact_mod_cast h
 have h3:((2 ^ n:Nat):Int)=(2:Int) ^ n:=by norm_cast
 omega
theorem pow2_eq (n:Nat) (hn:n≤60):∀ k,n < k→spec_l01Pow2.f k (n:Int)=some ((2:Int) ^ n):=by
 intro k hk
 unfold spec_l01Pow2.f
 refine rounds (fun k i=>spec_l01Pow2.l0 k (n:Int) ((2:Int) ^ i) (i:Int)) n _ ?_ ?_ k hk
 ·intro k i hi
  simp only [spec_l01Pow2.l0]
  have h1:=pow62 (n:=i + 1) (by omega)
  have h2:=pow_pos_ i
  rw [if_pos (by omega),w64s i (by omega),show (2:Int) * 2 ^ i=2 ^ (i + 1) from by rw [Int.pow_succ];omega,w64 (by have:=pow_pos_ (i + 1);omega) (by omega)]
 ·intro k
  simp only [spec_l01Pow2.l0]
  rw [if_neg (by omega)]
theorem shl_eq (n:Nat) (hn:n≤60):shl .i64 1 (n:Int)=(2:Int) ^ n:=by
 unfold shl
 rw [Int.toNat_natCast,show min n IntKind.i64.bits=n from by simp [IntKind.bits];omega,Int.one_mul,IntKind.wrap_i64]
 have h1:=pow62 (n:=n) (by omega)
 have h2:=pow_pos_ n
 omega
theorem impl_TableOk_eq (N:Int) (s:ByteArray) (hs:s.size≤1099511627776):∀ k,s.size + 20 < k→impl_TableOk.f k N s=some (tok N s):=by
 intro k hk
 obtain ⟨k,rfl⟩:∃ m,k=m + 1:=⟨k - 1,by omega⟩
 unfold impl_TableOk.f impl_within.f
 by_cases h0:N ≥ 0
 ·rw [if_pos h0]
  by_cases h1:N≤12
  ·obtain ⟨n,rfl⟩:=Int.eq_ofNat_of_zero_le h0
   simp only [h1,decide_true,Option.bind_some,if_true]
   rw [u64_of (by omega) (by omega),if_pos (by omega),shl_eq n (by omega)]
   simp only [impl_TableOk.j0]
   by_cases h2:(s.size:Int)=2 ^ n
   ·rw [if_neg (by simp [h2])]
    have h:=rounds_all (fun k i=>impl_TableOk.l0 k (s.size:Int) (i:Int) (n:Int) s) s.size (fun i=>bt s i == 48 || bt s i == 49) true false ?_ ?_ ?_ k (by omega)
    ·refine h.trans ?_
     unfold tok
     rw [decide_eq_true (⟨h0,h1,by rw [Int.toNat_natCast];exact h2⟩:0≤(n:Int)∧(n:Int)≤12∧(s.size:Int)=2 ^ (n:Int).toNat),Bool.true_and]
     congr 1
     split <;> simp_all
    ·intro k i hi hp
     simp only [impl_TableOk.l0]
     simp only [Bool.or_eq_true,beq_iff_eq] at hp
     rw [if_pos (by omega),if_pos (by omega),if_pos (by omega),w64s i (by omega)]
     rcases hp with hp|hp
     ·rw [if_pos hp]
     ·rw [if_neg (by omega),if_pos hp]
    ·intro k i hi hp
     simp only [impl_TableOk.l0]
     simp only [Bool.or_eq_false_iff,beq_eq_false_iff_ne] at hp
     rw [if_pos (by omega),if_pos (by omega),if_pos (by omega),if_neg hp.1,if_neg hp.2]
    ·intro k
     simp only [impl_TableOk.l0]
     rw [if_neg (by omega)]
   ·rw [if_pos (by simpa using h2)]
    unfold tok
    rw [decide_eq_false (by rintro ⟨_,_,h⟩;rw [Int.toNat_natCast] at h;exact h2 h),Bool.false_and]
  ·simp only [h1,decide_false,Option.bind_some]
   simp only [Bool.false_eq_true,if_false,impl_TableOk.j0,if_true]
   unfold tok
   rw [decide_eq_false (by omega),Bool.false_and]
 ·rw [if_neg h0]
  simp only [Option.bind_some,Bool.false_eq_true,if_false,impl_TableOk.j0,if_true]
  unfold tok
  rw [decide_eq_false (by omega),Bool.false_and]
def flags (s:ByteArray):List Bool:=s.data.toList.map fun c=>c == 49
theorem flags_ones (l:List Bool):flags (ones l)=l:=by
 unfold flags
 simp only [ones,List.map_map]
 exact (List.map_congr_left (fun b _=>by cases b <;> rfl)).trans (List.map_id l)
theorem wraps_i64 (n:Int) (h₀:0≤n) (h₁:n < 2 ^ 62):IntKind.i64.wrap n=n:=by rw [IntKind.wrap_i64];omega
theorem and_i64 (a b:Nat) (ha:a < 2 ^ 62) (hb:b < 2 ^ 62):Go.bits .and .i64 (a:Int) (b:Int)=((a &&& b:Nat):Int):=(bits_nat .i64 62 (by decide) wraps_i64 a b ha hb).1
theorem or_i64 (a b:Nat) (ha:a < 2 ^ 62) (hb:b < 2 ^ 62):Go.bits .or .i64 (a:Int) (b:Int)=((a ||| b:Nat):Int):=(bits_nat .i64 62 (by decide) wraps_i64 a b ha hb).2
theorem pow_cast (j:Nat):(2:Int) ^ j=((2 ^ j:Nat):Int):=by norm_cast
end Go.Proofs.YthipjoioicmcnaaGreat.Pure
namespace Go.Proofs.YthipjoioicmcnaaGreat.Pure
open Go.RowKit Go.Proofs.YthipjoioicmcnaaGreatW.PrintWords Go.Proofs.YthipjoioicmcnaaGreatW.PrintLast Go.Proofs.YthipjoioicmcnaaGreatW.PrintMore
theorem ev_some {α:Type} (r:α):Ev (fun _=>some r) r:=⟨0,fun _ _=>rfl⟩
theorem ev_ge {α:Type} {g:Nat→Option α} {r:α} (n:Nat) (h:∀ k,n < k→g k=some r):Ev g r:=⟨n + 1,fun k hk=>h k (by omega)⟩
theorem ev_step {α:Type} {g f:Nat→Option α} {r:α} (h:∀ k,g (k + 1)=f k) (e:Ev f r):Ev g r:=by
 obtain ⟨K,e⟩:=e
 refine ⟨K + 1,fun k hk=>?_⟩
 obtain ⟨m,rfl⟩:∃ m,k=m + 1:=⟨k - 1,by omega⟩
 rw [h m]
 exact e m (by omega)
theorem ev_succ {α:Type} {g:Nat→Option α} {r:α} (e:Ev (fun k=>g (k + 1)) r):Ev g r:=ev_step (fun _=>rfl) e
theorem ev_eq {α:Type} {g f:Nat→Option α} {r:α} (h:∀ k,g k=f k) (e:Ev f r):Ev g r:=by
 obtain ⟨K,e⟩:=e
 exact ⟨K,fun k hk=>(h k).trans (e k hk)⟩
theorem ev_bind {α β:Type} {g:Nat→Option α} {f:Nat→α→Option β} {a:α} {r:β} (h:Ev g a) (e:Ev (fun n=>f n a) r):Ev (fun n=>(g n).bind (f n)) r:=by
 obtain ⟨K,h⟩:=h
 obtain ⟨M,e⟩:=e
 refine ⟨K + M,fun n hn=>?_⟩
 show (g n).bind (f n)=some r
 rw [h n (by omega)]
 exact e n (by omega)
theorem ev_rounds {α:Type} {g:Nat→Option α} {r:α} (h:Ev g r):∃ k,g k=some r:=by
 obtain ⟨K,h⟩:=h
 exact ⟨K,h K (Nat.le_refl _)⟩
theorem ev_one {α:Type} {g:Nat→Option α} {a b:α} (h:Ev g a) (e:Ev g b):a=b:=by
 obtain ⟨K,h⟩:=h
 obtain ⟨M,e⟩:=e
 exact Option.some.inj ((h (K + M) (by omega)).symm.trans (e (K + M) (by omega)))
theorem ev_loop {α:Type} (L:Nat→Nat→Option α) (n:Nat) (r:α) (step:∀ i,i < n→Ev (fun k=>L k (i + 1)) r→Ev (fun k=>L k i) r) (stop:Ev (fun k=>L k n) r):∀ i,i≤n→Ev (fun k=>L k i) r:=by
 have h:∀ d i,i + d=n→Ev (fun k=>L k i) r:=by
  intro d
  induction d with
  | zero =>
   intro i hi
   obtain rfl:i=n:=by omega
   exact stop
  | succ d ih=>intro i hi;exact step i (by omega) (ih (i + 1) (by omega))
 exact fun i hi=>h (n - i) i (by omega)
end Go.Proofs.YthipjoioicmcnaaGreat.Pure
namespace Go.Proofs.YthipjoioicmcnaaGreat.Pure
open Go.RowKit Go.Proofs.YthipjoioicmcnaaGreat.G Go.Proofs.YthipjoioicmcnaaGreatW.PrintWords Go.Proofs.YthipjoioicmcnaaGreatW.PrintLast Go.Proofs.YthipjoioicmcnaaGreatW.PrintMore
theorem shr_nat (z j:Nat) (hj:j≤60):shr .i64 (z:Int) (j:Int)=((z / 2 ^ j:Nat):Int):=by
 unfold shr
 rw [Int.toNat_natCast,show min j IntKind.i64.bits=j from by simp [IntKind.bits];omega]
 norm_cast
theorem shl_nat (z j:Nat) (hj:j≤60) (h:z * 2 ^ j < 4611686018427387904):shl .i64 (z:Int) (j:Int)=((z * 2 ^ j:Nat):Int):=by
 unfold shl
 rw [Int.toNat_natCast,show min j IntKind.i64.bits=j from by simp [IntKind.bits];omega,pow_cast,← Int.natCast_mul,wraps_i64 _ (by omega) (by omega)]
theorem apPow (w:Nat) (h8:w≤8):1≤(2:Int) ^ w∧(2:Int) ^ w≤256:=by
 have:w=0∨w=1∨w=2∨w=3∨w=4∨w=5∨w=6∨w=7∨w=8:=by omega
 rcases this with rfl|rfl|rfl|rfl|rfl|rfl|rfl|rfl|rfl <;> decide
theorem apU (w:Nat) (h8:w≤8):IntKind.u64.wrap (w:Int)=(w:Int):=u64_of (by omega) (by omega)
theorem apMask (w:Nat) (h8:w≤8):wrap64 (shl .i64 1 (w:Int) - 1)=(2:Int) ^ w - 1:=by
 rw [shl_eq w (by omega)]
 have:=apPow w h8
 unfold wrap64
 omega
theorem apAnd (w:Nat) (h8:w≤8) (x:Int):Go.bits .and .i64 x ((2:Int) ^ w - 1)=x % (2:Int) ^ w:=by
 have hP:((2:Int) ^ w - 1)=((2 ^ w - 1:Nat):Int):=by
  have:1≤2 ^ w:=Nat.one_le_two_pow
  push_cast [this]
  rfl
 have hlt:2 ^ w - 1 < 2 ^ 64:=by
  have h1:2 ^ w≤2 ^ 8:=Nat.pow_le_pow_right (by decide) h8
  have h2:(2:Nat) ^ 8 < 2 ^ 64:=by decide
  omega
 have hx:((BitVec.ofInt 64 x).toNat &&& (2 ^ w - 1))=(x % (2:Int) ^ w).toNat:=by
  rw [Nat.and_two_pow_sub_one_eq_mod,BitVec.toNat_ofInt]
  have hd:((2 ^ w:Nat):Int) ∣ ((2 ^ 64:Nat):Int):=by exact_mod_cast Nat.pow_dvd_pow 2 (by omega)
  have h0:0≤x % ((2 ^ 64:Nat):Int):=Int.emod_nonneg _ (by decide)
  have e:(((x % ((2 ^ 64:Nat):Int)).toNat % 2 ^ w:Nat):Int)=x % (2:Int) ^ w:=by
   rw [Int.natCast_emod,Int.toNat_of_nonneg h0,Int.emod_emod_of_dvd _ hd]
   push_cast
   rfl
  rw [← e,Int.toNat_natCast]
 have hn:0≤x % (2:Int) ^ w:=Int.emod_nonneg _ (by have:=apPow w h8;omega)
 have hl:x % (2:Int) ^ w < (2:Int) ^ w:=Int.emod_lt_of_pos _ (by have:=apPow w h8;omega)
 have hb:(BitVec.ofInt 64 ((2 ^ w - 1:Nat):Int)).toNat=2 ^ w - 1:=by
  rw [BitVec.ofInt_natCast,BitVec.toNat_ofNat,Nat.mod_eq_of_lt hlt]
 rw [hP]
 unfold Go.bits
 show IntKind.i64.wrap (((BitVec.ofInt 64 x) &&& (BitVec.ofInt 64 ((2 ^ w - 1:Nat):Int))).toNat:Int)=_
 rw [BitVec.toNat_and,hb,hx,Int.toNat_of_nonneg hn]
 exact wraps_i64 _ hn (by have:=apPow w h8;omega)
theorem apCut (w:Nat) (h8:w≤8) (x:Int):impl_cut.f (w:Int) x=some (x % (2:Int) ^ w):=by
 unfold impl_cut.f
 rw [apU w h8,if_pos (by omega),apMask w h8,apAnd w h8]
theorem apPow2 (w:Nat) (h8:w≤8):Ev (fun k=>spec_l01Pow2.f k (w:Int)) ((2:Int) ^ w):=ev_ge w (fun k hk=>pow2_eq w (by omega) k hk)
def apOk (w:Nat) (a:Int):Bool:=decide (0≤a∧a < (2:Int) ^ w)
theorem apWordI (w:Nat) (h1:1≤w) (h8:w≤8) (a:Int):impl_WordOk.f (w:Int) a=some (apOk w a):=by
 have hp:=apPow w h8
 unfold impl_WordOk.f impl_isWidth.f impl_within.f
 rw [if_pos (show (w:Int) ≥ 1 by omega)]
 simp only [Option.bind_some]
 rw [show decide ((w:Int)≤8)=true from decide_eq_true (by omega),if_pos rfl,apU w h8,if_pos (by omega),apMask w h8]
 unfold apOk
 by_cases h:a ≥ 0
 ·rw [if_pos h]
  simp only [Option.bind_some]
  congr 1
  rw [decide_eq_decide]
  omega
 ·rw [if_neg h]
  simp only [Option.bind_some]
  congr 1
  exact (decide_eq_false (by omega)).symm
theorem apIn (x a b:Int):spec_l01In.f x a b=some (decide (a≤x∧x≤b)):=by
 unfold spec_l01In.f
 by_cases h:x ≥ a
 ·rw [if_pos h]
  congr 1
  rw [decide_eq_decide]
  omega
 ·rw [if_neg h]
  congr 1
  exact (decide_eq_false (by omega)).symm
theorem apWithin (x a b:Int):impl_within.f x a b=some (decide (a≤x∧x≤b)):=by
 unfold impl_within.f
 by_cases h:x ≥ a
 ·rw [if_pos h]
  congr 1
  rw [decide_eq_decide]
  omega
 ·rw [if_neg h]
  congr 1
  exact (decide_eq_false (by omega)).symm
theorem apWordS (w:Nat) (h1:1≤w) (h8:w≤8) (a:Int):Ev (fun k=>spec_WordOk.f k (w:Int) a) (apOk w a):=by
 have hp:=apPow w h8
 refine ev_eq (f:=fun k=>(spec_l01Pow2.f k (w:Int)).bind fun t102=>((spec_l01In.f a 0 (wrap64 (t102 - 1))).bind fun t103=>(some t103))) (fun k=>?_) ?_
 ·unfold spec_WordOk.f
  rw [apIn,show decide ((1:Int)≤(w:Int)∧(w:Int)≤8)=true from decide_eq_true (by omega)]
  simp only [Option.bind_some]
  rw [if_pos trivial]
 ·refine ev_bind (apPow2 w h8) ?_
  rw [apIn]
  simp only [Option.bind_some]
  rw [show decide (0≤a∧a≤wrap64 ((2:Int) ^ w - 1))=apOk w a from by
   unfold apOk wrap64
   rw [decide_eq_decide]
   omega]
  exact ev_some _
theorem apTwoI (w:Nat) (h1:1≤w) (h8:w≤8) (a b:Int):impl_two.f (w:Int) a b=some (apOk w a && apOk w b):=by
 unfold impl_two.f
 rw [apWordI w h1 h8,apWordI w h1 h8]
 simp only [Option.bind_some]
 cases apOk w a <;> simp
theorem apTwoS (w:Nat) (h1:1≤w) (h8:w≤8) (a b:Int):Ev (fun k=>spec_l01Two.f k (w:Int) a b) (apOk w a && apOk w b):=by
 refine ev_bind (f:=fun k t101=>if t101=true then ((spec_WordOk.f k (w:Int) b).bind fun t102=>(some t102)) else (some false)) (apWordS w h1 h8 a) ?_
 cases apOk w a with
 | false=>exact ev_some _
 | true =>
  simp only [if_true,Bool.true_and]
  exact ev_bind (f:=fun _ t=>some t) (apWordS w h1 h8 b) (ev_some _)
def Same (x:Option Int) (y:Nat→Option Int):Prop:=∃ v,x=some v∧Ev y v
theorem apBoth (w:Nat) (h1:1≤w) (h8:w≤8) (a b:Int) (I:Option Int) (S:Nat→Option Int) (z:Int) (h:0≤a→a < (2:Int) ^ w→0≤b→b < (2:Int) ^ w→Same I S) :
  Same ((impl_two.f (w:Int) a b).bind fun t=>if t=true then I else some z) (fun k=>(spec_l01Two.f k (w:Int) a b).bind fun t=>if t=true then S k else some z):=by
 by_cases hok:(apOk w a && apOk w b)=true
 ·have hh:=hok
  simp only [Bool.and_eq_true,apOk,decide_eq_true_eq] at hh
  obtain ⟨v,e1,e2⟩:=h hh.1.1 hh.1.2 hh.2.1 hh.2.2
  refine ⟨v,?_,?_⟩
  ·rw [apTwoI w h1 h8,hok]
   exact e1
  ·refine ev_bind (f:=fun k t=>if t=true then S k else some z) (apTwoS w h1 h8 a b) ?_
   rw [hok]
   exact e2
 ·have h':(apOk w a && apOk w b)=false:=by simpa using hok
  refine ⟨z,?_,?_⟩
  ·rw [apTwoI w h1 h8,h']
   rfl
  ·refine ev_bind (f:=fun k t=>if t=true then S k else some z) (apTwoS w h1 h8 a b) ?_
   rw [h']
   exact ev_some _
theorem apSolo (w:Nat) (h1:1≤w) (h8:w≤8) (a:Int) (I:Option Int) (S:Nat→Option Int) (z:Int) (h:0≤a→a < (2:Int) ^ w→Same I S) :
  Same ((impl_WordOk.f (w:Int) a).bind fun t=>if t=true then I else some z) (fun k=>(spec_WordOk.f k (w:Int) a).bind fun t=>if t=true then S k else some z):=by
 by_cases hok:apOk w a=true
 ·have hh:=hok
  simp only [apOk,decide_eq_true_eq] at hh
  obtain ⟨v,e1,e2⟩:=h hh.1 hh.2
  refine ⟨v,?_,?_⟩
  ·rw [apWordI w h1 h8,hok]
   exact e1
  ·refine ev_bind (f:=fun k t=>if t=true then S k else some z) (apWordS w h1 h8 a) ?_
   rw [hok]
   exact e2
 ·have h':apOk w a=false:=by simpa using hok
  refine ⟨z,?_,?_⟩
  ·rw [apWordI w h1 h8,h']
   rfl
  ·refine ev_bind (f:=fun k t=>if t=true then S k else some z) (apWordS w h1 h8 a) ?_
   rw [h']
   exact ev_some _
theorem apAdd (w:Nat) (h1:1≤w) (h8:w≤8) (a b:Int):Same (impl_Add.f (w:Int) a b) (fun k=>spec_Add.f k (w:Int) a b):=by
 have hp:=apPow w h8
 refine apBoth w h1 h8 a b _ (fun k=>(spec_l01Pow2.f k (w:Int)).bind fun t102=>(if t102=0 then (none) else (some (Int.tmod (wrap64 (a + b)) t102)))) 0 (fun a0 a1 b0 b1=>⟨(a + b) % (2:Int) ^ w,?_,?_⟩)
 ·rw [apCut w h8,show wrap64 (a + b)=a + b from by unfold wrap64;omega]
  rfl
 ·refine ev_bind (f:=fun _ t102=>if t102=0 then (none) else (some (Int.tmod (wrap64 (a + b)) t102))) (apPow2 w h8) ?_
  rw [if_neg (by omega),show wrap64 (a + b)=a + b from by unfold wrap64;omega,Int.tmod_eq_emod_of_nonneg (by omega)]
  exact ev_some _
theorem apSub (w:Nat) (h1:1≤w) (h8:w≤8) (a b:Int):Same (impl_Sub.f (w:Int) a b) (fun k=>spec_Sub.f k (w:Int) a b):=by
 have hp:=apPow w h8
 refine apBoth w h1 h8 a b _ (fun k=>(spec_l01Pow2.f k (w:Int)).bind fun t102=>((spec_l01Pow2.f k (w:Int)).bind fun t103=>(if t103=0 then (none) else (some (Int.tmod (wrap64 ((wrap64 (a + t102)) - b)) t103))))) 0 (fun a0 a1 b0 b1=>⟨(a - b) % (2:Int) ^ w,?_,?_⟩)
 ·rw [apCut w h8,show wrap64 (a - b)=a - b from by unfold wrap64;omega]
  rfl
 ·refine ev_bind (f:=fun k t102=>(spec_l01Pow2.f k (w:Int)).bind fun t103=>(if t103=0 then (none) else (some (Int.tmod (wrap64 ((wrap64 (a + t102)) - b)) t103)))) (apPow2 w h8) ?_
  refine ev_bind (f:=fun _ t103=>if t103=0 then (none) else (some (Int.tmod (wrap64 ((wrap64 (a + (2:Int) ^ w)) - b)) t103))) (apPow2 w h8) ?_
  rw [if_neg (by omega),show wrap64 (wrap64 (a + (2:Int) ^ w) - b)=(a - b) + (2:Int) ^ w from by unfold wrap64;omega,Int.tmod_eq_emod_of_nonneg (by omega),Int.add_emod_right]
  exact ev_some _
theorem apMul (w:Nat) (h1:1≤w) (h8:w≤8) (a b:Int):Same (impl_Mul.f (w:Int) a b) (fun k=>spec_Mul.f k (w:Int) a b):=by
 have hp:=apPow w h8
 refine apBoth w h1 h8 a b _ (fun k=>(spec_l01Pow2.f k (w:Int)).bind fun t102=>(if t102=0 then (none) else (some (Int.tmod (wrap64 (a * b)) t102)))) 0 (fun a0 a1 b0 b1=>⟨(a * b) % (2:Int) ^ w,?_,?_⟩)
 ·have hm:0≤a * b:=Int.mul_nonneg a0 b0
  have hM:a * b≤256 * 256:=Int.mul_le_mul (by omega) (by omega) b0 (by omega)
  rw [apCut w h8,show wrap64 (a * b)=a * b from by unfold wrap64;omega]
  rfl
 ·have hm:0≤a * b:=Int.mul_nonneg a0 b0
  have hM:a * b≤256 * 256:=Int.mul_le_mul (by omega) (by omega) b0 (by omega)
  refine ev_bind (f:=fun _ t102=>if t102=0 then (none) else (some (Int.tmod (wrap64 (a * b)) t102))) (apPow2 w h8) ?_
  rw [if_neg (by omega),show wrap64 (a * b)=a * b from by unfold wrap64;omega,Int.tmod_eq_emod_of_nonneg hm]
  exact ev_some _
theorem apDiv (w:Nat) (h1:1≤w) (h8:w≤8) (a b:Int):Same (impl_Div.f (w:Int) a b) (fun k=>spec_Div.f k (w:Int) a b):=by
 have hp:=apPow w h8
 refine apBoth w h1 h8 a b _ (fun k=>if b=0 then ((spec_l01Pow2.f k (w:Int)).bind fun t102=>(some (wrap64 (t102 - 1)))) else (some (wrap64 (Int.tdiv a b)))) 0 (fun a0 a1 b0 b1=>?_)
 by_cases hb:b=0
 ·rw [if_pos hb]
  simp only [if_pos hb]
  rw [apU w h8,if_pos (by omega),apMask w h8]
  refine ⟨_,rfl,ev_bind (f:=fun _ t102=>some (wrap64 (t102 - 1))) (apPow2 w h8) ?_⟩
  rw [show wrap64 ((2:Int) ^ w - 1)=(2:Int) ^ w - 1 from by unfold wrap64;omega]
  exact ev_some _
 ·rw [if_neg hb]
  simp only [if_neg hb]
  exact ⟨_,rfl,ev_some _⟩
theorem apRem (w:Nat) (h1:1≤w) (h8:w≤8) (a b:Int):Same (impl_Rem.f (w:Int) a b) (fun k=>spec_Rem.f k (w:Int) a b):=by
 refine apBoth w h1 h8 a b _ (fun k=>if b=0 then some a else (some (Int.tmod a b))) 0 (fun a0 a1 b0 b1=>?_)
 by_cases hb:b=0
 ·rw [if_pos hb]
  try simp only [if_pos hb]
  exact ⟨_,rfl,ev_some _⟩
 ·rw [if_neg hb]
  try simp only [if_neg hb]
  exact ⟨_,rfl,ev_some _⟩
theorem apFlip (w:Nat) (h1:1≤w) (h8:w≤8) (a:Int):Same (impl_Flip.f (w:Int) a) (fun k=>spec_Flip.f k (w:Int) a):=by
 have hp:=apPow w h8
 refine apSolo w h1 h8 a _ (fun k=>(spec_l01Pow2.f k (w:Int)).bind fun t102=>(some (wrap64 ((wrap64 (t102 - 1)) - a)))) 0 (fun a0 a1=>?_)
 rw [apU w h8,if_pos (by omega),apMask w h8]
 refine ⟨_,rfl,ev_bind (f:=fun _ t102=>some (wrap64 ((wrap64 (t102 - 1)) - a))) (apPow2 w h8) ?_⟩
 rw [show wrap64 ((2:Int) ^ w - 1)=(2:Int) ^ w - 1 from by unfold wrap64;omega]
 exact ev_some _
theorem apShr (w:Nat) (h1:1≤w) (h8:w≤8) (a b:Int):Same (impl_Shr.f (w:Int) a b) (fun k=>spec_Shr.f k (w:Int) a b):=by
 have hp:=apPow w h8
 refine apBoth w h1 h8 a b _ (fun k=>if b ≥ (w:Int) then some 0 else ((spec_l01Pow2.f k b).bind fun t102=>(if t102=0 then (none) else (some (wrap64 (Int.tdiv a t102)))))) 0 (fun a0 a1 b0 b1=>?_)
 by_cases hb:b ≥ (w:Int)
 ·rw [if_pos hb]
  simp only [if_pos hb]
  exact ⟨_,rfl,ev_some _⟩
 ·rw [if_neg hb]
  simp only [if_neg hb]
  obtain ⟨j,rfl⟩:=Int.eq_ofNat_of_zero_le b0
  obtain ⟨x,rfl⟩:=Int.eq_ofNat_of_zero_le a0
  have hj:j≤8:=by omega
  have hq:=apPow j hj
  rw [apU j hj,if_pos (by omega),shr_nat x j (by omega)]
  refine ⟨_,rfl,ev_bind (f:=fun _ t102=>if t102=0 then (none) else (some (wrap64 (Int.tdiv (x:Int) t102)))) (apPow2 j hj) ?_⟩
  rw [if_neg (by omega),Int.tdiv_eq_ediv_of_nonneg (by omega)]
  have e:(x:Int) / (2:Int) ^ j=((x / 2 ^ j:Nat):Int):=by push_cast;rfl
  have hle:x / 2 ^ j≤x:=Nat.div_le_self _ _
  rw [e]
  generalize x / 2 ^ j=q at hle ⊢
  rw [show wrap64 (q:Int)=(q:Int) from by unfold wrap64;omega]
  exact ev_some _
theorem apShl (w:Nat) (h1:1≤w) (h8:w≤8) (a b:Int):Same (impl_Shl.f (w:Int) a b) (fun k=>spec_Shl.f k (w:Int) a b):=by
 have hp:=apPow w h8
 have key:=apBoth w h1 h8 a b (if b ≥ (w:Int) then (some 0) else (if 0≤(IntKind.u64.wrap b) then ((impl_cut.f (w:Int) (shl .i64 a (IntKind.u64.wrap b))).bind fun t102=>(some t102)) else (none))) (fun k=>spec_Shl.j0 k (w:Int) a b (decide (b ≥ (w:Int)))) 0 (fun a0 a1 b0 b1=>by
  by_cases hb:b ≥ (w:Int)
  ·rw [if_pos hb]
   refine ⟨0,rfl,ev_succ ?_⟩
   simp only [spec_Shl.j0,decide_eq_true hb,if_true]
   exact ev_some _
  ·rw [if_neg hb]
   obtain ⟨j,rfl⟩:=Int.eq_ofNat_of_zero_le b0
   obtain ⟨x,rfl⟩:=Int.eq_ofNat_of_zero_le a0
   have hj:j≤8:=by omega
   have hq:=apPow j hj
   have hx:x≤255:=by omega
   have hj2:2 ^ j≤256:=Nat.le_trans (Nat.pow_le_pow_right (by decide) hj) (by decide)
   have hm:x * 2 ^ j≤255 * 256:=Nat.mul_le_mul hx hj2
   rw [apU j hj,if_pos (by omega),shl_nat x j (by omega) (by omega),apCut w h8]
   refine ⟨_,rfl,ev_succ ?_⟩
   simp only [spec_Shl.j0,decide_eq_false hb,Bool.false_eq_true,if_false]
   refine ev_bind (f:=fun k t102=>(spec_l01Pow2.f k (w:Int)).bind fun t103=>(if t103=0 then (none) else (some (Int.tmod (wrap64 ((x:Int) * t102)) t103)))) (apPow2 j hj) ?_
   refine ev_bind (f:=fun _ t103=>if t103=0 then (none) else (some (Int.tmod (wrap64 ((x:Int) * (2:Int) ^ j)) t103))) (apPow2 w h8) ?_
   have e:(x:Int) * (2:Int) ^ j=((x * 2 ^ j:Nat):Int):=by push_cast;rfl
   rw [if_neg (by omega),e,show wrap64 ((x * 2 ^ j:Nat):Int)=((x * 2 ^ j:Nat):Int) from by unfold wrap64;omega,Int.tmod_eq_emod_of_nonneg (by omega)]
   exact ev_some _)
 obtain ⟨v,e1,e2⟩:=key
 refine ⟨v,e1,?_⟩
 obtain ⟨K,e2⟩:=e2
 refine ⟨K + 1,fun k hk=>?_⟩
 have h:=e2 k (by omega)
 obtain ⟨m,rfl⟩:∃ m,k=m + 1:=⟨k - 1,by omega⟩
 have hz:spec_Shl.j0 (m + 1) (w:Int) a b true=some 0:=by simp [spec_Shl.j0]
 show ((spec_l01Two.f (m + 1) (w:Int) a b).bind fun t101=>if t101=true then spec_Shl.j0 (m + 1) (w:Int) a b (decide (b ≥ (w:Int))) else spec_Shl.j0 (m + 1) (w:Int) a b true)=some v
 rw [hz]
 exact h
theorem apBit (t:Bool):impl_bit.f t=spec_l01Bool.f t:=rfl
theorem apBitS (t:Bool):∃ v,impl_bit.f t=some v:=by cases t <;> exact ⟨_,rfl⟩
theorem apSigned (w:Nat) (h1:1≤w) (h8:w≤8) (a:Int):Same (impl_Signed.f (w:Int) a) (fun k=>spec_Signed.f k (w:Int) a):=by
 have hp:=apPow w h8
 refine apSolo w h1 h8 a _ (fun k=>(spec_l01Pow2.f k (wrap64 ((w:Int) - 1))).bind fun t102=>(if a ≥ t102 then ((spec_l01Pow2.f k (w:Int)).bind fun t103=>(some (wrap64 (a - t103)))) else (some a))) 0 (fun a0 a1=>?_)
 obtain ⟨j,rfl⟩:∃ j,w=j + 1:=⟨w - 1,by omega⟩
 have hj:j≤8:=by omega
 rw [show wrap64 (((j + 1:Nat):Int) - 1)=(j:Int) from by unfold wrap64;omega,apU j hj,apU (j + 1) h8,if_pos (by omega),shl_eq j (by omega),shl_eq (j + 1) (by omega)]
 by_cases hc:a ≥ (2:Int) ^ j
 ·rw [if_pos hc,if_pos (by omega)]
  refine ⟨_,rfl,ev_bind (f:=fun k t102=>if a ≥ t102 then ((spec_l01Pow2.f k ((j + 1:Nat):Int)).bind fun t103=>(some (wrap64 (a - t103)))) else (some a)) (apPow2 j hj) ?_⟩
  simp only [if_pos hc]
  exact ev_bind (f:=fun _ t103=>some (wrap64 (a - t103))) (apPow2 (j + 1) h8) (ev_some _)
 ·rw [if_neg hc]
  refine ⟨_,rfl,ev_bind (f:=fun k t102=>if a ≥ t102 then ((spec_l01Pow2.f k ((j + 1:Nat):Int)).bind fun t103=>(some (wrap64 (a - t103)))) else (some a)) (apPow2 j hj) ?_⟩
  simp only [if_neg hc]
  exact ev_some _
theorem apLess (w:Nat) (h1:1≤w) (h8:w≤8) (a b:Int):Same (impl_Less.f (w:Int) a b) (fun k=>spec_Less.f k (w:Int) a b):=by
 refine apBoth w h1 h8 a b ((impl_bit.f (decide (a < b))).bind fun t102=>(some t102)) (fun k=>(spec_l01Bool.f (decide (a < b))).bind fun t102=>(some t102)) 0 (fun a0 a1 b0 b1=>?_)
 obtain ⟨v,hv⟩:=apBitS (decide (a < b))
 have hs:=(apBit (decide (a < b))).symm.trans hv
 exact ⟨v,by rw [hv];rfl,by rw [hs];exact ev_some _⟩
theorem apLessSigned (w:Nat) (h1:1≤w) (h8:w≤8) (a b:Int):Same (impl_LessSigned.f (w:Int) a b) (fun k=>spec_LessSigned.f k (w:Int) a b):=by
 refine apBoth w h1 h8 a b ((impl_Signed.f (w:Int) a).bind fun t102=>((impl_Signed.f (w:Int) b).bind fun t103=>((impl_bit.f (decide (t102 < t103))).bind fun t104=>(some t104)))) (fun k=>(spec_Signed.f k (w:Int) a).bind fun t102=>((spec_Signed.f k (w:Int) b).bind fun t103=>((spec_l01Bool.f (decide (t102 < t103))).bind fun t104=>(some t104)))) 0 (fun a0 a1 b0 b1=>?_)
 obtain ⟨x,e1,e2⟩:=apSigned w h1 h8 a
 obtain ⟨y,e3,e4⟩:=apSigned w h1 h8 b
 obtain ⟨v,hv⟩:=apBitS (decide (x < y))
 have hs:=(apBit (decide (x < y))).symm.trans hv
 refine ⟨v,by rw [e1,e3];simp only [Option.bind_some];rw [hv];rfl,?_⟩
 refine ev_bind (f:=fun k t102=>(spec_Signed.f k (w:Int) b).bind fun t103=>((spec_l01Bool.f (decide (t102 < t103))).bind fun t104=>(some t104))) e2 ?_
 refine ev_bind (f:=fun k t103=>(spec_l01Bool.f (decide (x < t103))).bind fun t104=>(some t104)) e4 ?_
 rw [hs]
 exact ev_some _
theorem apSlice (w:Nat) (h1:1≤w) (h8:w≤8) (n:Nat) (n1:1≤n) (n8:n≤8) (a low:Int) (hl : -9223372036854775808≤low∧low≤9223372036854775807):Same (impl_Slice.f (w:Int) a low (n:Int)) (fun k=>spec_Slice.f k (w:Int) a low (n:Int)):=by
 have hp:=apPow w h8
 have key:=apSolo w h1 h8 a ((impl_within.f (n:Int) 1 (w:Int)).bind fun t102=>(if t102=true then ((impl_within.f low 0 (wrap64 ((w:Int) - (n:Int)))).bind fun t103=>(if t103=true then (if 0≤(IntKind.u64.wrap (low)) then ((impl_cut.f (n:Int) (shr .i64 a (IntKind.u64.wrap (low)))).bind fun t104=>(some t104)) else (none)) else (some 0))) else (some 0))) (fun k=>if low < 0 then (spec_Slice.j0 k a low (n:Int) true) else ((spec_l01In.f (n:Int) 1 (wrap64 ((w:Int) - low))).bind fun t102=>(spec_Slice.j0 k a low (n:Int) (!t102)))) 0 (fun a0 a1=>by
  simp only [apWithin,apIn,Option.bind_some]
  have stop:Ev (fun k=>spec_Slice.j0 k a low (n:Int) true) 0:=ev_succ (by simp only [spec_Slice.j0,if_true];exact ev_some _)
  by_cases hr:0≤low∧low + (n:Int)≤(w:Int)
  ·rw [decide_eq_true (show (1:Int)≤(n:Int)∧(n:Int)≤(w:Int) by omega),if_pos rfl,decide_eq_true (show (0:Int)≤low∧low≤wrap64 ((w:Int) - (n:Int)) by unfold wrap64;omega),if_pos rfl]
   obtain ⟨j,rfl⟩:=Int.eq_ofNat_of_zero_le hr.1
   obtain ⟨x,rfl⟩:=Int.eq_ofNat_of_zero_le a0
   have hj:j≤8:=by omega
   have hq:=apPow j hj
   have hn:=apPow n n8
   simp only [if_neg (show ¬ (j:Int) < 0 by omega)]
   rw [decide_eq_true (show (1:Int)≤(n:Int)∧(n:Int)≤wrap64 ((w:Int) - (j:Int)) by unfold wrap64;omega),apU j hj,if_pos (by omega),shr_nat x j (by omega),apCut n n8]
   refine ⟨_,rfl,ev_succ ?_⟩
   simp only [spec_Slice.j0,Bool.not_true,Bool.false_eq_true,if_false]
   refine ev_bind (f:=fun k t103=>if t103=0 then (none) else ((spec_l01Pow2.f k (n:Int)).bind fun t104=>(if t104=0 then (none) else (some (Int.tmod (wrap64 (Int.tdiv (x:Int) t103)) t104))))) (apPow2 j hj) ?_
   simp only [if_neg (show ¬ (2:Int) ^ j=0 by omega)]
   refine ev_bind (f:=fun k t104=>if t104=0 then (none) else (some (Int.tmod (wrap64 (Int.tdiv (x:Int) ((2:Int) ^ j))) t104))) (apPow2 n n8) ?_
   rw [if_neg (by omega),Int.tdiv_eq_ediv_of_nonneg (by omega)]
   have e:(x:Int) / (2:Int) ^ j=((x / 2 ^ j:Nat):Int):=by push_cast;rfl
   have hle:x / 2 ^ j≤x:=Nat.div_le_self _ _
   rw [e]
   generalize x / 2 ^ j=q at hle ⊢
   rw [show wrap64 (q:Int)=(q:Int) from by unfold wrap64;omega,Int.tmod_eq_emod_of_nonneg (by omega)]
   exact ev_some _
  ·refine ⟨0,?_,?_⟩
   ·by_cases hn:(1:Int)≤(n:Int)∧(n:Int)≤(w:Int)
    ·rw [decide_eq_true hn,if_pos rfl,decide_eq_false (show ¬ ((0:Int)≤low∧low≤wrap64 ((w:Int) - (n:Int))) by unfold wrap64;omega),if_neg (by decide)]
    ·rw [decide_eq_false hn,if_neg (by decide)]
   ·by_cases hz:low < 0
    ·simp only [if_pos hz]
     exact stop
    ·simp only [if_neg hz]
     rw [decide_eq_false (show ¬ ((1:Int)≤(n:Int)∧(n:Int)≤wrap64 ((w:Int) - low)) by unfold wrap64;omega)]
     exact stop)
 obtain ⟨v,e1,e2⟩:=key
 refine ⟨v,e1,?_⟩
 obtain ⟨K,e2⟩:=e2
 refine ⟨K + 1,fun k hk=>?_⟩
 have h:=e2 k (by omega)
 obtain ⟨m,rfl⟩:∃ m,k=m + 1:=⟨k - 1,by omega⟩
 have hz:spec_Slice.j0 (m + 1) a low (n:Int) true=some 0:=by simp [spec_Slice.j0]
 show ((spec_WordOk.f (m + 1) (w:Int) a).bind fun t101=>if t101=true then (if low < 0 then (spec_Slice.j0 (m + 1) a low (n:Int) true) else ((spec_l01In.f (n:Int) 1 (wrap64 ((w:Int) - low))).bind fun t102=>(spec_Slice.j0 (m + 1) a low (n:Int) (!t102)))) else spec_Slice.j0 (m + 1) a low (n:Int) true)=some v
 rw [hz]
 dsimp only at h
 rw [hz] at h
 exact h
def apG (W w a b c:Int):Bool:=decide (1≤W∧W≤8) && (decide (1≤w∧w≤8) && (decide (0≤a∧a≤255) && (decide (0≤b∧b≤255) && decide (0≤c∧c≤255))))
theorem apI (k:Nat) (o W K A B C w a b c:Int):impl_Apply.f k o W K A B C w a b c=impl_Apply.j0 k w a b c (!apG W w a b c) o W K A B C:=by
 simp only [impl_Apply.f,impl_isWidth.f,impl_isByte.f,apWithin,Option.bind_some,apG]
 cases decide (1≤W∧W≤8) <;> cases decide (1≤w∧w≤8) <;> cases decide (0≤a∧a≤255) <;> cases decide (0≤b∧b≤255) <;> cases decide (0≤c∧c≤255) <;> rfl
theorem apS (k:Nat) (o W K A B C w a b c:Int):spec_Apply.f k o W K A B C w a b c=spec_Apply.j0 k w a b c (!apG W w a b c) o W K A B C:=by
 simp only [spec_Apply.f,apIn,Option.bind_some,apG]
 cases decide (1≤W∧W≤8) <;> cases decide (1≤w∧w≤8) <;> cases decide (0≤a∧a≤255) <;> cases decide (0≤b∧b≤255) <;> cases decide (0≤c∧c≤255) <;> rfl
theorem Same.both {I:Option Int} {S:Nat→Option Int} (h:Same I S):∃ v,Ev (fun _=>I.bind fun t=>some t) v∧Ev (fun k=>(S k).bind fun t=>some t) v:=by
 obtain ⟨v,e1,e2⟩:=h
 exact ⟨v,by rw [e1];exact ev_some _,ev_bind (f:=fun _ t=>some t) e2 (ev_some _)⟩
theorem apApply (o W K A B C w a b c:Int) (hK : -9223372036854775808≤K∧K≤9223372036854775807):∃ v,Ev (fun k=>impl_Apply.f k o W K A B C w a b c) v∧Ev (fun k=>spec_Apply.f k o W K A B C w a b c) v:=by
 simp only [apI,apS]
 cases hg:apG W w a b c with
 | false=>exact ⟨0,ev_succ (by simp only [impl_Apply.j0,Bool.not_false,if_true];exact ev_some _),ev_succ (by simp only [spec_Apply.j0,Bool.not_false,if_true];exact ev_some _)⟩
 | true =>
  simp only [apG,Bool.and_eq_true,decide_eq_true_eq] at hg
  obtain ⟨hW,hw,ha,hb,hc⟩:=hg
  obtain ⟨n,rfl⟩:=Int.eq_ofNat_of_zero_le (show 0≤W by omega)
  obtain ⟨u,rfl⟩:=Int.eq_ofNat_of_zero_le (show 0≤w by omega)
  have n1:1≤n:=by omega
  have n8:n≤8:=by omega
  have u1:1≤u:=by omega
  have u8:u≤8:=by omega
  suffices h:∃ v,Ev (fun k=>impl_Apply.j0 (k + 1) (u:Int) a b c (!true) o (n:Int) K A B C) v∧Ev (fun k=>spec_Apply.j0 (k + 1) (u:Int) a b c (!true) o (n:Int) K A B C) v by
   obtain ⟨v,e1,e2⟩:=h
   exact ⟨v,ev_succ e1,ev_succ e2⟩
  simp only [impl_Apply.j0,spec_Apply.j0,Bool.not_true,Bool.false_eq_true,if_false,apWithin,Option.bind_some]
  by_cases h0:o=0
  ·simp only [if_pos h0]
   exact ⟨_,ev_some _,ev_some _⟩
  simp only [if_neg h0]
  by_cases h2:o=2
  ·simp only [if_pos h2]
   exact (apFlip n n1 n8 a).both
  simp only [if_neg h2]
  by_cases h3:o=3
  ·subst h3
   simp only [impl_binary.f,show decide ((3:Int)≤3∧(3:Int)≤12)=true from rfl,if_true,Option.bind_some]
   exact ⟨_,ev_some _,ev_some _⟩
  by_cases h4:o=4
  ·subst h4
   simp only [impl_binary.f,show decide ((3:Int)≤4∧(4:Int)≤12)=true from rfl,if_true,Option.bind_some,if_neg h3]
   exact ⟨_,ev_some _,ev_some _⟩
  by_cases h5:o=5
  ·subst h5
   simp only [impl_binary.f,show decide ((3:Int)≤5∧(5:Int)≤12)=true from rfl,if_true,Option.bind_some,if_neg h3,if_neg h4]
   exact ⟨_,ev_some _,ev_some _⟩
  by_cases h6:o=6
  ·subst h6
   simp only [impl_binary.f,show decide ((3:Int)≤6∧(6:Int)≤12)=true from rfl,if_true,Option.bind_some,if_neg h3,if_neg h4,if_neg h5]
   obtain ⟨v,e1,e2⟩:=apAdd n n1 n8 a b
   exact ⟨v,by rw [e1];exact ev_some _,ev_bind (f:=fun _ t=>some t) e2 (ev_some _)⟩
  by_cases h7:o=7
  ·subst h7
   simp only [impl_binary.f,show decide ((3:Int)≤7∧(7:Int)≤12)=true from rfl,if_true,Option.bind_some,if_neg h3,if_neg h4,if_neg h5,if_neg h6]
   obtain ⟨v,e1,e2⟩:=apSub n n1 n8 a b
   exact ⟨v,by rw [e1];exact ev_some _,ev_bind (f:=fun _ t=>some t) e2 (ev_some _)⟩
  by_cases h8:o=8
  ·subst h8
   simp only [impl_binary.f,show decide ((3:Int)≤8∧(8:Int)≤12)=true from rfl,if_true,Option.bind_some,if_neg h3,if_neg h4,if_neg h5,if_neg h6,if_neg h7]
   obtain ⟨v,e1,e2⟩:=apMul n n1 n8 a b
   exact ⟨v,by rw [e1];exact ev_some _,ev_bind (f:=fun _ t=>some t) e2 (ev_some _)⟩
  by_cases h9:o=9
  ·subst h9
   simp only [impl_binary.f,show decide ((3:Int)≤9∧(9:Int)≤12)=true from rfl,if_true,Option.bind_some,if_neg h3,if_neg h4,if_neg h5,if_neg h6,if_neg h7,if_neg h8]
   obtain ⟨v,e1,e2⟩:=apDiv n n1 n8 a b
   exact ⟨v,by rw [e1];exact ev_some _,ev_bind (f:=fun _ t=>some t) e2 (ev_some _)⟩
  by_cases h10:o=10
  ·subst h10
   simp only [impl_binary.f,show decide ((3:Int)≤10∧(10:Int)≤12)=true from rfl,if_true,Option.bind_some,if_neg h3,if_neg h4,if_neg h5,if_neg h6,if_neg h7,if_neg h8,if_neg h9]
   obtain ⟨v,e1,e2⟩:=apRem n n1 n8 a b
   exact ⟨v,by rw [e1];exact ev_some _,ev_bind (f:=fun _ t=>some t) e2 (ev_some _)⟩
  by_cases h11:o=11
  ·subst h11
   simp only [impl_binary.f,show decide ((3:Int)≤11∧(11:Int)≤12)=true from rfl,if_true,Option.bind_some,if_neg h3,if_neg h4,if_neg h5,if_neg h6,if_neg h7,if_neg h8,if_neg h9,if_neg h10]
   obtain ⟨v,e1,e2⟩:=apShl n n1 n8 a b
   exact ⟨v,by rw [e1];exact ev_some _,ev_bind (f:=fun _ t=>some t) e2 (ev_some _)⟩
  by_cases h12:o=12
  ·subst h12
   simp only [impl_binary.f,show decide ((3:Int)≤12∧(12:Int)≤12)=true from rfl,if_true,Option.bind_some,if_neg h3,if_neg h4,if_neg h5,if_neg h6,if_neg h7,if_neg h8,if_neg h9,if_neg h10,if_neg h11]
   obtain ⟨v,e1,e2⟩:=apShr n n1 n8 a b
   exact ⟨v,by rw [e1];exact ev_some _,ev_bind (f:=fun _ t=>some t) e2 (ev_some _)⟩
  simp only [if_neg h3,if_neg h4,if_neg h5,if_neg h6,if_neg h7,if_neg h8,if_neg h9,if_neg h10,if_neg h11,if_neg h12]
  rw [show decide ((3:Int)≤o∧o≤12)=false from decide_eq_false (by omega)]
  simp only [Bool.false_eq_true,if_false]
  by_cases h13:o=13
  ·simp only [if_pos h13]
   obtain ⟨v,hv⟩:=apBitS (a == b)
   have hs:=(apBit (a == b)).symm.trans hv
   exact ⟨v,by rw [hv];exact ev_some _,by rw [hs];exact ev_some _⟩
  simp only [if_neg h13]
  by_cases h14:o=14
  ·simp only [if_pos h14]
   exact (apLess u u1 u8 a b).both
  simp only [if_neg h14]
  by_cases h15:o=15
  ·simp only [if_pos h15]
   exact (apLessSigned u u1 u8 a b).both
  simp only [if_neg h15]
  by_cases h16:o=16
  ·simp only [if_pos h16]
   by_cases hj:(n:Int) < (u:Int)
   ·simp only [if_pos hj,decide_eq_true hj]
    exact ⟨b,ev_succ (by simp only [impl_Apply.j1,if_true];exact ev_some _),ev_some _⟩
   ·simp only [if_neg hj,decide_eq_false hj]
    obtain ⟨j,rfl⟩:∃ j,n=u + j:=⟨n - u,by omega⟩
    have hj8:j≤8:=by omega
    have hq:=apPow j hj8
    obtain ⟨x,rfl⟩:=Int.eq_ofNat_of_zero_le ha.1
    have hx:x≤255:=by omega
    have hj2:2 ^ j≤256:=Nat.le_trans (Nat.pow_le_pow_right (by decide) hj8) (by decide)
    have hm:x * 2 ^ j≤255 * 256:=Nat.mul_le_mul hx hj2
    have ew:wrap64 (((u + j:Nat):Int) - (u:Int))=(j:Int):=by unfold wrap64;omega
    have e:(x:Int) * (2:Int) ^ j=((x * 2 ^ j:Nat):Int):=by push_cast;rfl
    refine ⟨wrap64 (((x * 2 ^ j:Nat):Int) + b),ev_succ ?_,?_⟩
    ·simp only [impl_Apply.j1,Bool.false_eq_true,if_false,if_pos h16,ew]
     rw [apU j hj8,if_pos (by omega),shl_nat x j (by omega) (by omega)]
     exact ev_some _
    ·rw [ew]
     refine ev_bind (f:=fun _ t118=>some (wrap64 ((wrap64 ((x:Int) * t118)) + b))) (apPow2 j hj8) ?_
     rw [e,show wrap64 ((x * 2 ^ j:Nat):Int)=((x * 2 ^ j:Nat):Int) from by unfold wrap64;omega]
     exact ev_some _
  simp only [if_neg h16]
  by_cases h17:o=17
  ·simp only [if_pos h17]
   obtain ⟨v,e1,e2⟩:=(apSlice u u1 u8 n n1 n8 a K hK).both
   refine ⟨v,ev_succ ?_,e2⟩
   simp only [impl_Apply.j1,Bool.false_eq_true,if_false,if_neg h16,if_pos h17]
   exact e1
  simp only [if_neg h17]
  by_cases h18:o=18
  ·simp only [if_pos h18]
   by_cases hx:a=1
   ·refine ⟨b,ev_succ ?_,?_⟩
    ·simp only [impl_Apply.j1,Bool.false_eq_true,if_false,if_neg h16,if_neg h17,if_pos h18,beq_iff_eq.2 hx]
     exact ev_succ (by simp only [impl_Apply.j2,if_true];exact ev_some _)
    ·simp only [if_pos hx]
     exact ev_some _
   ·refine ⟨c,ev_succ ?_,?_⟩
    ·simp only [impl_Apply.j1,Bool.false_eq_true,if_false,if_neg h16,if_neg h17,if_pos h18,beq_eq_false_iff_ne.2 hx]
     exact ev_succ (by simp only [impl_Apply.j2,Bool.false_eq_true,if_false,if_pos h18];exact ev_some _)
    ·simp only [if_neg hx]
     exact ev_some _
  simp only [if_neg h18]
  refine ⟨0,ev_succ ?_,ev_some _⟩
  simp only [impl_Apply.j1,Bool.false_eq_true,if_false,if_neg h16,if_neg h17,if_neg h18]
  exact ev_succ (by simp only [impl_Apply.j2,Bool.false_eq_true,if_false,if_neg h18];exact ev_some _)
theorem tm_front {α:Type} (x y:List α) (i:Nat) (v:α) (hx:i < x.length) (hy:i < y.length) (h:x[i]? = some v):(x.take i ++ y.drop i).set i v=x.take (i + 1) ++ y.drop (i + 1):=by
 apply List.ext_getElem?
 intro j
 rw [List.getElem?_set]
 simp only [List.length_append,List.length_take,List.length_drop,List.getElem?_append,List.getElem?_take,List.getElem?_drop]
 by_cases hj:i=j
 ·subst hj
  rw [if_pos rfl,if_pos (by omega),if_pos (by omega),if_pos (by omega)]
  exact h.symm
 ·rw [if_neg hj]
  by_cases h1:j < i
  ·rw [if_pos (by omega),if_pos (by omega),if_pos (by omega),if_pos (by omega)]
  ·rw [if_neg (by omega),if_neg (by omega)]
   congr 1
   omega
theorem rdQ_nat (L:List S31) (i:Nat):rd_T31 L (i:Int)=L.getD i z31:=by unfold rd_T31;simp
theorem rdN_nat (L:List S52) (i:Nat):rd_T52 L (i:Int)=L.getD i z52:=by unfold rd_T52;simp
end Go.Proofs.YthipjoioicmcnaaGreat.Pure
