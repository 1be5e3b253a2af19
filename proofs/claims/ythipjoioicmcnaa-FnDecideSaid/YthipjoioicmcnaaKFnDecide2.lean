-- texts of this session, merged by a program of it (wip/gen/pack.py)
import Derived.Test.YthipjoioicmcnaaKFnDecide1
import Derived.Lib.IndexAny
set_option linter.unusedVariables false
set_option linter.unusedSimpArgs false
set_option maxHeartbeats 80000000
set_option maxRecDepth 100000
namespace Go.Proofs.Ythipjoioicmcnaa.G
open Go.RowKit Go.Proofs.YthipjoioicmcnaaW.PrintWords Go.Proofs.YthipjoioicmcnaaW.PrintLast Go.Proofs.YthipjoioicmcnaaW.PrintMore Go.Proofs.Ythipjoioicmcnaa.Sh
attribute [local go_sem] dP dR eA eB dB dC dQ dS
def cB.f (A7:Int) (A1:ByteArray) (a1:Int):Option (Int × ByteArray):=if a1=0 then (if 0≤(wrap64 ((A1.size:Int) / 2)) then (if (wrap64 ((A1.size:Int) / 2))≤(A1.size:Int) then (some (wrap64 (A7 - 1),A1.extract 0 ((wrap64 ((A1.size:Int) / 2)):Int).toNat)) else (none)) else (none)) else (if 0≤(wrap64 ((A1.size:Int) / 2)) then (if (wrap64 ((A1.size:Int) / 2))≤(A1.size:Int) then (some (wrap64 (A7 - 1),A1.extract ((wrap64 ((A1.size:Int) / 2)):Int).toNat A1.size)) else (none)) else (none))
def cB.T3:Bool × List (List Nat × List Nat):=(true,[([],[]),([0],[0]),([1],[1]),([],[]),([3],[3]),([],[]),([4,5],[4,5]),([2,6],[2,6]),([7,0,1,2,3,4,5,6,7],[7])])
def cB.B3:List Nat:=[0,1,3,0,8,0,56,127,255]
theorem cB.tab3:iM .any (oN Try.f67 3)=cB.T3:=by kernel_rfl
theorem cB.bits3:hY cB.T3.2 cB.B3=true:=by kernel_rfl
def cB.T4:Bool × List (List Nat × List Nat):=(true,[([],[]),([0],[0]),([1],[1]),([],[]),([3],[3]),([],[]),([4,5],[4,5]),([2,6],[2,6]),([7,0,1,2,3,4,5,6,7],[7])])
def cB.B4:List Nat:=[0,1,3,0,8,0,56,127,255]
theorem cB.tab4:iM .any (oN Try.f67 4)=cB.T4:=by kernel_rfl
theorem cB.bits4:hY cB.T4.2 cB.B4=true:=by kernel_rfl
theorem cB.calls (A7:Int) (A1:ByteArray) (a1:Int) (r1:Int) (r2:ByteArray) (w:World) (h:cB.f A7 A1 a1=some (r1,r2)) :
  Calls Try.prog 67 #[.agg #[.int .i64 A7,.string A1],.int .i64 a1] w fun e w'=>e = .returned (.agg #[.int .i64 r1,.string r2])∧Below w.heap.size w w':=by
 have hu26:=Try.underlying26;have HB:=aA.mk (Below.refl w.heap.size w);have H:(if a1=0 then (if 0≤(wrap64 ((A1.size:Int) / 2)) then (if (wrap64 ((A1.size:Int) / 2))≤(A1.size:Int) then (some (wrap64 (A7 - 1),A1.extract 0 ((wrap64 ((A1.size:Int) / 2)):Int).toNat)) else (none)) else (none)) else (if 0≤(wrap64 ((A1.size:Int) / 2)) then (if (wrap64 ((A1.size:Int) / 2))≤(A1.size:Int) then (some (wrap64 (A7 - 1),A1.extract ((wrap64 ((A1.size:Int) / 2)):Int).toNat A1.size)) else (none)) else (none)))=some (r1,r2):=h;clear h
 by_cases c3:a1=0
 ·rw [if_pos c3] at H;have c3b0:(a1 == 0)=true:=beq_iff_eq.mpr c3;have c3b1:(a1 != 0)=false:=bne_eq_false_iff_eq.mpr c3;clear c3;obtain ⟨ji4,hji4⟩:∃ j_:Int,(wrap64 ((A1.size:Int) / 2))=j_:=⟨_,rfl⟩
  replace H:(if 0≤(ji4) then (if (ji4)≤(A1.size:Int) then (some (wrap64 (A7 - 1),A1.extract 0 ((ji4):Int).toNat)) else (none)) else (none))=some (r1,r2):=by first|(rw [hji4] at H;exact H)|(simp only [hji4] at H ⊢;exact H)
  have hji4w:(IntKind.i64.wrap ((A1.size:Int) / 2))=ji4:=(aJ _).trans hji4
  by_cases c5:0≤(ji4)
  ·rw [if_pos c5] at H;have c5b0:=eq_true c5;have c5b1:decide (0≤(ji4))=true:=decide_eq_true c5;clear c5
   by_cases c6:(ji4)≤(A1.size:Int)
   ·rw [if_pos c6] at H;have c6b0:=eq_true c6;have c6b1:decide ((ji4)≤(A1.size:Int))=true:=decide_eq_true c6;clear c6;simp only [Option.some.injEq,Prod.mk.injEq] at H;obtain ⟨rfl,rfl⟩:=H
    go_enter Try.func67,Try.ntmps67
    try go_wp2_with (first|((with_reducible refine bF (N:=2) rfl ?_);refine bx (N:=2) (cs:=#[.int .i64 A7,.string A1]) (t:=26) ?_;intro A4 hg w7 hbox hb;have A2:=aA.mk (hbox);have A8:=aA.mk ((by rw [hg];exact (aG (tb HB)):w.heap.size≤A4));have A9:=aA.mk ((by rw [hg];exact (aG (tb HB)):w.heap.size≤A4));replace HB:=aA.mk (aE (tb HB) hb);clear hb hbox hg)|((with_reducible refine bF (N:=4) rfl ?_);refine bx (N:=4) (cs:=#[.int .i64 0,.string (⟨#[]⟩:ByteArray)]) (t:=26) ?_;intro A3 hg w8 hbox hb;have A5:=aA.mk (hbox);have Aa:=aA.mk ((by rw [hg];exact (aG (tb HB)):w.heap.size≤A3));have Ab:=aA.mk ((by rw [hg];exact (aG (tb HB)):w.heap.size≤A3));replace HB:=aA.mk (aE (tb HB) hb);have A0:=aA.mk ((by rw [hg];exact Nat.ne_of_lt (eE (g:=A4) (o := .cells #[.int .i64 A7,.string A1] 26 (0,0)) (dr A2)):A4≠A3));have A6:=aA.mk ((by rw [hg];exact Nat.ne_of_gt (eE (g:=A4) (o := .cells #[.int .i64 A7,.string A1] 26 (0,0)) (dr A2)):A3≠A4));replace A2:=aA.mk (aM (g:=A4) (o := .cells #[.int .i64 A7,.string A1] 26 (0,0)) (dr A2) hb);clear hb hbox hg;have hnb9:=A0.out;have hnc9:=A6.out;have hcz10__:=gP A2;have hfz10__:=f_ A2))
    have n0_:=aA.mk (aU A2.out);have n1_:=aA.mk (aU A5.out);have n2_:=aA.mk (bO HB.out);clear A2;clear A5;clear HB;have A2:=n0_;have A5:=n1_;have HB:=n2_;clear n0_ n1_ n2_;refine fM (n:=9) (S:=fun w'=>w'.cell? ⟨A4,0,none⟩=some (.int .i64 A7)∧w'.cell? ⟨A4,1,none⟩=some (.string A1)) (ds:=[]) (tf 0 9) (by kernel_rfl) rfl rfl ⟨(aY A2.out 0).trans rfl,(aY A2.out 1).trans rfl⟩ (fun hHeld=>?_);refine iJ cB.tab3 cB.bits3 (fun HT_ HW_=>?_);generalize w8.drew=w11 at A2 A5 HB hHeld ⊢;refine hJ HT_ 0 12 (tf 1 8) ?_;refine hJ HT_ 3 15 #[true,false,false,true,false,false,false,false,false] ?_;refine hJ HT_ 5 17 #[true,false,false,true,false,true,false,false,false] ?_;refine vL HT_ HW_ 1 13 #[true,true,false,true,false,true,false,false,false] hHeld ?_;refine hJ HT_ 2 14 #[true,true,true,true,false,true,false,false,false] ?_;refine vL HT_ HW_ 4 16 (tf 6 3) hHeld ?_;refine hJ HT_ 6 18 (tf 7 2) ?_;refine hJ HT_ 7 19 (tf 8 1) ?_;refine gC (i:=8) (N:=none) (tf 9 0) rfl rfl (iD HT_.out (by kernel_rfl)) (by decide) (fun K hK=>?_);have hs12:w11.cell? ⟨A3,0,none⟩=some (.int .i64 0):=(aY A5.out 0).trans rfl;have hfs12:=dU A5.out 0;have hns12_0:=A0.out;have hms12_0:=A6.out;have hs13:w11.cell? ⟨A3,1,none⟩=some (.string (⟨#[]⟩:ByteArray)):=(aY A5.out 1).trans rfl;have hfs13:=dU A5.out 1;have hns13_0:=A0.out;have hms13_0:=A6.out;refine sI (w1:=?_) (by rfl) rfl ?_ ?_;rotate_left
    ·go_simp;rfl
    refine hK.out _ _ ⟨((cell_far (p:=⟨A3,_,none⟩) A0.out _).trans (((cell_far (p:=⟨A3,_,none⟩) A0.out _).trans (hHeld.1)))),((cell_far (p:=⟨A3,_,none⟩) A0.out _).trans (((cell_far (p:=⟨A3,_,none⟩) A0.out _).trans (hHeld.2))))⟩ (fun hHeld=>?_);clear hK K;refine iG (jS HT_.out (by kernel_rfl)) ?_
    try go_wp2
    refine bodyPost_ret (results_cell_row rfl _ _ A3 26 #[.int .i64 (wrap64 (A7 - 1)),.string (A1.extract 0 ((ji4):Int).toNat)] (0,0) _ rfl (by (with_reducible repeat (first|refine aW ?_ _|refine aU ?_|refine aX ?_ _));refine bU (cs:=#[.int .i64 (wrap64 (A7 - 1)),.string (⟨#[]⟩:ByteArray)]) ?_ 1 _ rfl;(with_reducible repeat (first|refine aW ?_ _|refine aU ?_|refine aX ?_ _));refine bU (cs:=#[.int .i64 0,.string (⟨#[]⟩:ByteArray)]) ?_ 0 _ rfl;(with_reducible repeat (first|refine aW ?_ _|refine aU ?_|refine aX ?_ _));exact A5.out) Try.underlying26 rfl (by kernel_rfl)) rfl ?_;exact ⟨by first|rfl|(simp [dM,dN] <;> rfl)|(simp only [← hji4];first|rfl|(simp [dM,dN] <;> rfl))|(simp [*,dM,dN] <;> rfl),tb HB⟩
   ·rw [if_neg c6] at H;exact absurd H (by simp)
  ·rw [if_neg c5] at H;exact absurd H (by simp)
 ·rw [if_neg c3] at H;have c3b0:(a1 == 0)=false:=beq_eq_false_iff_ne.mpr c3;have c3b1:(a1 != 0)=true:=bne_iff_ne.mpr c3;obtain ⟨ji14,hji14⟩:∃ j_:Int,(wrap64 ((A1.size:Int) / 2))=j_:=⟨_,rfl⟩
  replace H:(if 0≤(ji14) then (if (ji14)≤(A1.size:Int) then (some (wrap64 (A7 - 1),A1.extract ((ji14):Int).toNat A1.size)) else (none)) else (none))=some (r1,r2):=by first|(rw [hji14] at H;exact H)|(simp only [hji14] at H ⊢;exact H)
  have hji14w:(IntKind.i64.wrap ((A1.size:Int) / 2))=ji14:=(aJ _).trans hji14
  by_cases c15:0≤(ji14)
  ·rw [if_pos c15] at H;have c15b0:=eq_true c15;have c15b1:decide (0≤(ji14))=true:=decide_eq_true c15;clear c15
   by_cases c16:(ji14)≤(A1.size:Int)
   ·rw [if_pos c16] at H;have c16b0:=eq_true c16;have c16b1:decide ((ji14)≤(A1.size:Int))=true:=decide_eq_true c16;clear c16;simp only [Option.some.injEq,Prod.mk.injEq] at H;obtain ⟨rfl,rfl⟩:=H
    go_enter Try.func67,Try.ntmps67
    try go_wp2_with (first|((with_reducible refine bF (N:=2) rfl ?_);refine bx (N:=2) (cs:=#[.int .i64 A7,.string A1]) (t:=26) ?_;intro A4 hg w17 hbox hb;have A2:=aA.mk (hbox);have A8:=aA.mk ((by rw [hg];exact (aG (tb HB)):w.heap.size≤A4));have A9:=aA.mk ((by rw [hg];exact (aG (tb HB)):w.heap.size≤A4));replace HB:=aA.mk (aE (tb HB) hb);clear hb hbox hg)|((with_reducible refine bF (N:=4) rfl ?_);refine bx (N:=4) (cs:=#[.int .i64 0,.string (⟨#[]⟩:ByteArray)]) (t:=26) ?_;intro A3 hg w18 hbox hb;have A5:=aA.mk (hbox);have Aa:=aA.mk ((by rw [hg];exact (aG (tb HB)):w.heap.size≤A3));have Ab:=aA.mk ((by rw [hg];exact (aG (tb HB)):w.heap.size≤A3));replace HB:=aA.mk (aE (tb HB) hb);have A0:=aA.mk ((by rw [hg];exact Nat.ne_of_lt (eE (g:=A4) (o := .cells #[.int .i64 A7,.string A1] 26 (0,0)) (dr A2)):A4≠A3));have A6:=aA.mk ((by rw [hg];exact Nat.ne_of_gt (eE (g:=A4) (o := .cells #[.int .i64 A7,.string A1] 26 (0,0)) (dr A2)):A3≠A4));replace A2:=aA.mk (aM (g:=A4) (o := .cells #[.int .i64 A7,.string A1] 26 (0,0)) (dr A2) hb);clear hb hbox hg;have hnb19:=A0.out;have hnc19:=A6.out;have hcz20__:=gP A2;have hfz20__:=f_ A2))
    have n0_:=aA.mk (aU A2.out);have n1_:=aA.mk (aU A5.out);have n2_:=aA.mk (bO HB.out);clear A2;clear A5;clear HB;have A2:=n0_;have A5:=n1_;have HB:=n2_;clear n0_ n1_ n2_;refine fM (n:=9) (S:=fun w'=>w'.cell? ⟨A4,0,none⟩=some (.int .i64 A7)∧w'.cell? ⟨A4,1,none⟩=some (.string A1)) (ds:=[]) (tf 0 9) (by kernel_rfl) rfl rfl ⟨(aY A2.out 0).trans rfl,(aY A2.out 1).trans rfl⟩ (fun hHeld=>?_);refine iJ cB.tab4 cB.bits4 (fun HT_ HW_=>?_);generalize w18.drew=w21 at A2 A5 HB hHeld ⊢;refine hJ HT_ 0 20 (tf 1 8) ?_;refine hJ HT_ 3 23 #[true,false,false,true,false,false,false,false,false] ?_;refine hJ HT_ 5 25 #[true,false,false,true,false,true,false,false,false] ?_;refine vL HT_ HW_ 1 21 #[true,true,false,true,false,true,false,false,false] hHeld ?_;refine hJ HT_ 2 22 #[true,true,true,true,false,true,false,false,false] ?_;refine vL HT_ HW_ 4 24 (tf 6 3) hHeld ?_;refine hJ HT_ 6 26 (tf 7 2) ?_;refine hJ HT_ 7 27 (tf 8 1) ?_;refine gC (i:=8) (N:=none) (tf 9 0) rfl rfl (iD HT_.out (by kernel_rfl)) (by decide) (fun K hK=>?_);have hs22:w21.cell? ⟨A3,0,none⟩=some (.int .i64 0):=(aY A5.out 0).trans rfl;have hfs22:=dU A5.out 0;have hns22_0:=A0.out;have hms22_0:=A6.out;have hs23:w21.cell? ⟨A3,1,none⟩=some (.string (⟨#[]⟩:ByteArray)):=(aY A5.out 1).trans rfl;have hfs23:=dU A5.out 1;have hns23_0:=A0.out;have hms23_0:=A6.out;refine sI (w1:=?_) (by rfl) rfl ?_ ?_;rotate_left
    ·go_simp;rfl
    refine hK.out _ _ ⟨((cell_far (p:=⟨A3,_,none⟩) A0.out _).trans (((cell_far (p:=⟨A3,_,none⟩) A0.out _).trans (hHeld.1)))),((cell_far (p:=⟨A3,_,none⟩) A0.out _).trans (((cell_far (p:=⟨A3,_,none⟩) A0.out _).trans (hHeld.2))))⟩ (fun hHeld=>?_);clear hK K;refine iG (jS HT_.out (by kernel_rfl)) ?_
    try go_wp2
    refine bodyPost_ret (results_cell_row rfl _ _ A3 26 #[.int .i64 (wrap64 (A7 - 1)),.string (A1.extract ((ji14):Int).toNat A1.size)] (0,0) _ rfl (by (with_reducible repeat (first|refine aW ?_ _|refine aU ?_|refine aX ?_ _));refine bU (cs:=#[.int .i64 (wrap64 (A7 - 1)),.string (⟨#[]⟩:ByteArray)]) ?_ 1 _ rfl;(with_reducible repeat (first|refine aW ?_ _|refine aU ?_|refine aX ?_ _));refine bU (cs:=#[.int .i64 0,.string (⟨#[]⟩:ByteArray)]) ?_ 0 _ rfl;(with_reducible repeat (first|refine aW ?_ _|refine aU ?_|refine aX ?_ _));exact A5.out) Try.underlying26 rfl (by kernel_rfl)) rfl ?_;exact ⟨by first|rfl|(simp [dM,dN] <;> rfl)|(simp only [← hji14];first|rfl|(simp [dM,dN] <;> rfl))|(simp [*,dM,dN] <;> rfl),tb HB⟩
   ·rw [if_neg c16] at H;exact absurd H (by simp)
  ·rw [if_neg c15] at H;exact absurd H (by simp)
def cZ.f (a0:Bool):Option (Int):=if a0=true then (some 1) else (some 0)
theorem cZ.calls (a0:Bool) (r:Int) (w:World) (h:cZ.f a0=some r) :
  Calls Try.prog 111 #[.bool a0] w fun e w'=>e = .returned (.int .i64 r)∧bW w w':=by
 have H:(if a0=true then (some 1) else (some 0))=some r:=h;clear h
 by_cases c2:a0=true
 ·subst c2
  have H1:(some 1)=some r:=by rw [if_pos rfl] at H;exact H
  clear H;have H:=H1;clear H1;obtain rfl:=os H
  go_enter Try.func111,Try.ntmps111
  go_wp2;go_ret;exact ⟨e1,dn⟩
 ·replace c2:=Bool.eq_false_iff.mpr c2;subst c2
  have H1:(some 0)=some r:=by rw [if_neg (show ¬ (false=true) by decide)] at H;exact H
  clear H;have H:=H1;clear H1;obtain rfl:=os H
  go_enter Try.func111,Try.ntmps111
  go_wp2;go_ret;exact ⟨e1,dn⟩
def strings_Contains.f (a0:ByteArray) (a1:ByteArray):Option Bool:=match a1 with
 | ⟨⟨[c]⟩⟩=>some (a0.data.toList.contains c)
 | _=>none
theorem strings_Contains.calls (a0:ByteArray) (a1:ByteArray) (r:Bool) (w:World) (h:strings_Contains.f a0 a1=some r) :
  Calls Try.prog 112 #[.string a0,.string a1] w fun e w'=>e = .returned (.bool r)∧bW w w':=by
 unfold strings_Contains.f at h
 split at h
 ·rename_i c
  obtain rfl:=Option.some.inj h
  refine (Try.strings_Contains_one a0 c w).mono fun e w' hh=>?_
  obtain ⟨rfl,rfl⟩:=hh;exact ⟨by rw [Go.Lib.contains_iff_indexByte],bW.refl _⟩
 ·cases h
def cA.f (a0:Int) (a1:Int) (a2:Int):Option (Bool):=if a0 ≥ a1 then (some (decide (a0≤a2))) else (some false)
theorem cA.calls (a0:Int) (a1:Int) (a2:Int) (r:Bool) (w:World) (h:cA.f a0 a1 a2=some r) :
  Calls Try.prog 61 #[.int .i64 a0,.int .i64 a1,.int .i64 a2] w fun e w'=>e = .returned (.bool r)∧bW w w':=by
 have H:(if a0 ≥ a1 then (some (decide (a0≤a2))) else (some false))=some r:=h;clear h
 by_cases c4:a0 ≥ a1
 ·rw [if_pos c4] at H;have c4b0:decide (a1≤a0)=true:=decide_eq_true c4;clear c4;obtain rfl:=os H
  go_enter Try.func61,Try.ntmps61
  go_wp2;go_ret;exact ⟨e1,dn⟩
 ·rw [if_neg c4] at H;have c4b0:decide (a1≤a0)=false:=decide_eq_false c4;clear c4;obtain rfl:=os H
  go_enter Try.func61,Try.ntmps61
  go_wp2;go_ret;exact ⟨e1,dn⟩
def fE.f (a0:Int) (a90_0:Int) (a90_1:ByteArray):Option (Bool):=if 0≤a0 then (if a0 < (a90_1.size:Int) then (some ((bt a90_1 a0) == 48)) else (none)) else (none)
theorem fE.calls (a0:Int) (g0_:Nat) (a90_0:Int) (a90_1:ByteArray) (r:Bool) (w:World) (hbg0_:w.heap[g0_]? = some (.cells #[.int .i64 a90_0,.string a90_1] 26 (0,0))) (h:fE.f a0 a90_0 a90_1=some r) :
  Calls Try.prog 78 #[.int .i64 a0,.pointer (some ⟨g0_,0,none⟩)] w fun e w'=>e = .returned (.bool r)∧bW w w':=by
 have A0:=aA.mk hbg0_;clear hbg0_;have H:(if 0≤a0 then (if a0 < (a90_1.size:Int) then (some ((bt a90_1 a0) == 48)) else (none)) else (none))=some r:=h;clear h
 by_cases c2:0≤a0
 ·rw [if_pos c2] at H;have c2b0:decide (0≤a0)=true:=decide_eq_true c2;clear c2
  by_cases c3:a0 < (a90_1.size:Int)
  ·rw [if_pos c3] at H;have c3b0:decide (a0 < (a90_1.size:Int))=true:=decide_eq_true c3;clear c3;obtain rfl:=os H;have hcz5__:=gP A0;have hfz5__:=f_ A0;have p4:0≤(a0:Int):=od;have q4:a0 < (a90_1.size:Int):=od;have hx4:=lA a90_1 a0;replace p4:=eq_true p4;replace q4:=eq_true q4
   go_enter Try.func78,Try.ntmps78
   go_wp2;go_ret;exact ⟨e1,dn⟩
  ·rw [if_neg c3] at H;exact absurd H (by simp)
 ·rw [if_neg c2] at H;exact absurd H (by simp)
def kI.f (a0:Int):Option (Int):=some ((wrap64 (48 + (Go.bits .and .i64 a0 1))) % 256)
theorem kI.calls (a0:Int) (r:Int) (w:World) (h:kI.f a0=some r) :
  Calls Try.prog 88 #[.int .i64 a0] w fun e w'=>e = .returned (.int .u8 r)∧bW w w':=by
 have H:(some ((wrap64 (48 + (Go.bits .and .i64 a0 1))) % 256))=some r:=h;clear h;obtain rfl:=os H
 go_enter Try.func88,Try.ntmps88
 go_wp2;go_ret;exact ⟨e1,dn⟩
def eC.l0:Nat→List Bool→List Bool→Int→Int→Option (List Bool)
 | 0,_,_,_,_=>none
 | k + 1,x3,x7,x8,x9=>if x9 < x8 then (if 0≤x9 then (if x9 < (x7.length:Int) then (if x3.length < 140737488355328 then (eC.l0 k (x3 ++ [!(cL false x7 x9)]) x7 x8 (wrap64 (x9 + 1))) else (none)) else (none)) else (none)) else (some x3)
def eC.f (k:Nat) (l0:List Bool):Option (List Bool):=eC.l0 k (([]:List Bool)) l0 (l0.length:Int) 0
theorem eC.calls (k:Nat) (A0:Option Addr) (c0:Nat) (l0:List Bool) (r:List Bool) (w:World) (hr0:Kd.C Kd.bool w A0 l0.length l0) (hc0:l0.length≤c0) (h:eC.f k l0=some r) :
  Calls Try.prog 52 #[.slice A0 l0.length c0] w fun e w'=>∃ v0_:Value,e = .returned (v0_)∧Kd.R Kd.bool 4 w' w.heap.size (fun _=>True) v0_ r∧Below w.heap.size w w':=by
 have HR0:=aA.mk hr0;have HC0:=aA.mk hc0;clear hr0 hc0;have HB:=aA.mk (Below.refl w.heap.size w);have H:(eC.l0 k (([]:List Bool)) l0 (l0.length:Int) 0)=some r:=h;clear h;obtain ⟨y101,hy101⟩:∃ y_:List Bool,y_=(([]:List Bool)):=⟨_,rfl⟩;replace H:(eC.l0 k y101 l0 (l0.length:Int) 0)=some r:=gQ hy101 H;have Ny101:=aA.mk hy101;clear hy101;have H':=aA.mk H;clear H
 go_enter Try.func52,Try.ntmps52
 go_wp2_with (first|((with_reducible refine bF (N:=6) rfl ?_);refine Kd.R_lit Kd.bool _ 4 ?hg (N:=6) ?hd (xs:=([]:List Bool)) (inner:=[]) (ok:=fun _=>True) (okp:=fun _=>True) ?hr ?hp (fun _ hk=>hk) trivial (Below.refl _ _) (Nat.le_refl _) (by simp) ?_;(case hd=>rfl);(case hg=>rfl);(case hr=>first|(go_simp;done)|(go_simp;rfl));(case hp=>exact (cQ.none _ _));intro v102 w2 ho3 hb hg_ hnew_;clear hg_ hnew_;(first|rw [← Ny101.out] at ho3|(simp only [Int.reduceToNat] at ho3;rw [← Ny101.out] at ho3));have A4:=aA.mk (Kd.R_lower ho3 (aG (tb HB)));replace HB:=aA.mk (aE (tb HB) hb);clear hb ho3))
 go_loopg [3,9] k (fun kq v3 v9 w'=>∃ (A2:List Bool) (A1:Int),v9 = .int .i64 A1∧aA (eC.l0 kq A2 l0 (l0.length:Int) A1=some r)∧aA (kq≤k)∧aA (Kd.R Kd.bool 4 w' w.heap.size (fun _=>True) v3 A2)∧aA (Below w.heap.size w w'))
 case atStart=>exact ⟨(y101),(0),(by first|rfl|(simp;done)|(simp [*];done)),H',⟨Nat.le_refl _⟩,⟨ra A4⟩,⟨by exact tb HB⟩⟩
 case round =>
  clear H';obtain ⟨A2,A1,rfl,HA,HK1,A3,HB⟩:=hrel
  cases gk with
  | zero=>exact absurd HA.out (by simp [eC.l0])
  | succ k1 =>
   have H:=HA.out;clear HA;simp only [eC.l0] at H
   by_cases c4:A1 < (l0.length:Int)
   ·rw [if_pos c4] at H;have c4b0:decide (A1 < (l0.length:Int))=true:=decide_eq_true c4;clear c4
    by_cases c5:0≤A1
    ·rw [if_pos c5] at H;have c5b0:decide (0≤A1)=true:=decide_eq_true c5;clear c5
     by_cases c6:A1 < (l0.length:Int)
     ·rw [if_pos c6] at H;have c6b0:decide (A1 < (l0.length:Int))=true:=decide_eq_true c6;clear c6
      by_cases c7:A2.length < 140737488355328
      ·rw [if_pos c7] at H;have LMc7:=aA.mk c7;clear c7;obtain ⟨y105,hy105⟩:∃ y_:List Bool,y_=(A2 ++ [!(cL false l0 A1)]):=⟨_,rfl⟩;replace H:(eC.l0 k1 y105 l0 (l0.length:Int) (wrap64 (A1 + 1)))=some r:=gQ hy105 H;have Ny105:=aA.mk hy105;clear hy105;have H':=aA.mk H;clear H;have p104:0≤(A1:Int):=od;have q104:A1 < (l0.length:Int):=od;obtain ⟨ad104,e104,hx104_0⟩:=Kd.at_bool HR0.out A1 p104 q104;cases e104;replace hx104_0:=ct HB hx104_0;replace p104:=eq_true p104;replace q104:=eq_true q104;go_wp2_with (first|((with_reducible refine cD (b := .append) (xs:=#[.tmp 13,.tmp 16]) rfl ?_);at_builtin;refine Kd.R_append Kd.bool (w0:=w) w.heap.size rfl (.tmp 13) (.tmp 16) 24 4 (.bool false) 1 rfl Try.underlying24 iY rfl (by decide) (by omega) u3 A2 (!(cL false l0 A1)) [.bool (!(cL false l0 A1))] (fun _=>True) (fun _=>False) rfl rfl ?aP (fun _ hk=>hk.elim) ?aF ?aO ?aB ?aS ?aL ?_;(case aP=>exact rfl);(case aB=>exact (tb HB));(case aF=>exact (fun _ _=>trivial));(case aO=>exact (ra A3));(case aS=>exact (aG (tb HB)));(case aL=>have:=LMc7.out;omega);intro v106 w8 ho hb hg hat;rw [← Ny105.out] at ho;replace HB:=aA.mk (hb);have A5:=aA.mk (ho);clear A3;clear ho hb hg hat));go_roundg k1
       case measure=>have:=HK1.out;omega
       case rel=>exact ⟨(y105),(wrap64 (A1 + 1)),(by first|rfl|(simp;done)|(simp [*];done)),H',⟨by have:=HK1.out;omega⟩,⟨ra A5⟩,⟨by exact tb HB⟩⟩
      ·rw [if_neg c7] at H;exact absurd H (by simp)
     ·rw [if_neg c6] at H;exact absurd H (by simp)
    ·rw [if_neg c5] at H;exact absurd H (by simp)
   ·rw [if_neg c4] at H;have c4b0:decide (A1 < (l0.length:Int))=false:=decide_eq_false c4;clear c4;obtain rfl:=os H;go_wp2;go_ret;exact ⟨_,er,ra A3,tb HB⟩
def jL.f (l0:List Int):Option (Bool):=some (decide ((l0.length:Int) > 1048576))
theorem jL.calls (A0:Option Addr) (c0:Nat) (l0:List Int) (r:Bool) (w:World) (hr0:Kd.C (Kd.int .u8) w A0 l0.length l0) (hc0:l0.length≤c0) (h:jL.f l0=some r) :
  Calls Try.prog 11 #[.slice A0 l0.length c0] w fun e w'=>e = .returned (.bool r)∧bW w w':=by
 have HR0:=aA.mk hr0;have HC0:=aA.mk hc0;clear hr0 hc0;have H:(some (decide ((l0.length:Int) > 1048576)))=some r:=h;clear h;obtain rfl:=os H
 go_enter Try.func11,Try.ntmps11
 go_wp2;go_ret;exact ⟨e1,dn⟩
def bB.f (a0:Int) (a1:Int) (a2:Int):Option (Bool):=if a0 ≥ a1 then (some (decide (a0≤a2))) else (some false)
theorem bB.calls (a0:Int) (a1:Int) (a2:Int) (r:Bool) (w:World) (h:bB.f a0 a1 a2=some r) :
  Calls Try.prog 69 #[.int .i64 a0,.int .i64 a1,.int .i64 a2] w fun e w'=>e = .returned (.bool r)∧bW w w':=by
 have H:(if a0 ≥ a1 then (some (decide (a0≤a2))) else (some false))=some r:=h;clear h
 by_cases c4:a0 ≥ a1
 ·rw [if_pos c4] at H;have c4b0:decide (a1≤a0)=true:=decide_eq_true c4;clear c4;obtain rfl:=os H
  go_enter Try.func69,Try.ntmps69
  go_wp2;go_ret;exact ⟨e1,dn⟩
 ·rw [if_neg c4] at H;have c4b0:decide (a1≤a0)=false:=decide_eq_false c4;clear c4;obtain rfl:=os H
  go_enter Try.func69,Try.ntmps69
  go_wp2;go_ret;exact ⟨e1,dn⟩
def aH.l0:Nat→Int→Int→Int→Option (Int)
 | 0,_,_,_=>none
 | k + 1,x0,x3,x4=>if x4 < x0 then (aH.l0 k x0 (wrap64 (2 * x3)) (wrap64 (x4 + 1))) else (some x3)
def aH.f (k:Nat) (a0:Int):Option (Int):=aH.l0 k a0 1 0
theorem aH.calls (k:Nat) (a0:Int) (r:Int) (w:World) (h:aH.f k a0=some r) :
  Calls Try.prog 70 #[.int .i64 a0] w fun e w'=>e = .returned (.int .i64 r)∧bW w w':=by
 have H:(aH.l0 k a0 1 0)=some r:=h;clear h;have H':=aA.mk H;clear H
 go_enter Try.func70,Try.ntmps70
 go_wp2
 go_loopg [3,4] k (fun kq v3 v4 w'=>∃ (A1:Int) (A0:Int),v3 = .int .i64 A1∧v4 = .int .i64 A0∧aA (aH.l0 kq a0 A1 A0=some r)∧aA (kq≤k)∧bW w w')
 case atStart=>exact ⟨(1),(0),(by first|rfl|(simp;done)|(simp [*];done)),(by first|rfl|(simp;done)|(simp [*];done)),H',⟨Nat.le_refl _⟩,by repeat (first|exact bW.refl _|apply bW.step)⟩
 case round =>
  clear H';obtain ⟨A1,A0,rfl,rfl,HA,HK1,⟨m1,rfl⟩⟩:=hrel
  cases gk with
  | zero=>exact absurd HA.out (by simp [aH.l0])
  | succ k1 =>
   have H:=HA.out;clear HA;simp only [aH.l0] at H
   by_cases c2:A0 < a0
   ·rw [if_pos c2] at H;have c2b0:decide (A0 < a0)=true:=decide_eq_true c2;clear c2;have H':=aA.mk H;clear H;go_wp2;go_roundg k1
    case measure=>have:=HK1.out;omega
    case rel=>exact ⟨(wrap64 (2 * A1)),(wrap64 (A0 + 1)),(by first|rfl|(simp;done)|(simp [*];done)),(by first|rfl|(simp;done)|(simp [*];done)),H',⟨by have:=HK1.out;omega⟩,by repeat (first|exact bW.refl _|apply bW.step)⟩
   ·rw [if_neg c2] at H;have c2b0:decide (A0 < a0)=false:=decide_eq_false c2;clear c2;obtain rfl:=os H;go_wp2;go_ret;exact ⟨e1,dn⟩
def bK (w0 W:World) (g:Nat) (f0:List Int) (f1:Int) (f2:Int):Prop:=∃ A0 c0,W.heap[g]? = some (.cells #[.slice A0 f0.length c0,.int .i64 f1,.int .i64 f2] 121 (0,0))∧w0.heap.size≤g∧Kd.C (Kd.int .u8) w0 A0 f0.length f0
theorem bK.grown {w0 W:World} {g:Nat} {f0:List Int} {f1:Int} {f2:Int} {W1:World} {row:Option Nat} (h:bK w0 W g f0 f1 f2) (hw:W.grownBy W1 row) (hne:some g≠row):bK w0 W1 g f0 f1 f2:=by
 obtain ⟨A0,c0,hb,hg,hr0⟩:=h;exact ⟨A0,c0,eW hb hw hne,hg,hr0⟩
theorem bK.fresh {w0 W:World} {g:Nat} {f0:List Int} {f1:Int} {f2:Int} (h:bK w0 W g f0 f1 f2):∀ k,W.heap.size≤k→k≠g:=by
 obtain ⟨A0,c0,hb,hg,hr0⟩:=h;exact Kd.freshB hb
theorem bK.kept {w0 W:World} {g:Nat} {f0:List Int} {f1:Int} {f2:Int} {W1:World} {S:Nat→Prop} (h:bK w0 W g f0 f1 f2) (hk:cW W W1 S) (hne:¬ S g):bK w0 W1 g f0 f1 f2:=by
 obtain ⟨A0,c0,hb,hg,hr0⟩:=h;exact ⟨A0,c0,mP hb hk hne,hg,hr0⟩
theorem bK.below {w0 W:World} {g:Nat} {f0:List Int} {f1:Int} {f2:Int} {W1:World} (h:bK w0 W g f0 f1 f2) (hw:Below W.heap.size W W1):bK w0 W1 g f0 f1 f2:=h.grown (lH hw none) (by simp)
theorem bK.alloc {w0 W:World} {g:Nat} {f0:List Int} {f1:Int} {f2:Int} (h:bK w0 W g f0 f1 f2) (o:Obj):bK w0 (W.alloc o) g f0 f1 f2:=h.below (bQ (Below.refl _ _) o)
theorem bK.drewN {w0 W:World} {g:Nat} {f0:List Int} {f1:Int} {f2:Int} (h:bK w0 W g f0 f1 f2) (m:Nat):bK w0 (W.drewN m) g f0 f1 f2:=h
theorem bK.drew {w0 W:World} {g:Nat} {f0:List Int} {f1:Int} {f2:Int} (h:bK w0 W g f0 f1 f2):bK w0 W.drew g f0 f1 f2:=h
theorem bK.at_ {w0 W:World} {g:Nat} {f0:List Int} {f1:Int} {f2:Int} {w':World} {m:Nat} (hq:W.drewN m=w') (h:bK w0 W g f0 f1 f2):bK w0 w' g f0 f1 f2:=by subst hq;exact bK.drewN h m
theorem bK.apart {w0 W:World} {g:Nat} {f0:List Int} {f1:Int} {f2:Int} {α:Type} {d:Kd α} {e:Nat} {base:Nat} {ok:Nat→Prop} {v:Value} {xs:List α} (h:bK w0 W g f0 f1 f2) (ho:d.R e W base ok v xs) (ht:∀ q,q∈e :: d.E→q≠121):d.R e W base (fun k=>ok k∧k≠g) v xs:=by
 obtain ⟨A0,c0,hb,hg,hr0⟩:=h;exact Kd.R_types ho hb ht
theorem bK.own_ne {w0 W:World} {g:Nat} {f0:List Int} {f1:Int} {f2:Int} {α:Type} {d:Kd α} {e:Nat} {base:Nat} {ok:Nat→Prop} {v:Value} {xs:List α} (h:bK w0 W g f0 f1 f2) (ho:d.R e W base ok v xs) (ht:e≠121):some g≠v.ownBlock:=by
 obtain ⟨A0,c0,hb,hg,hr0⟩:=h;exact Kd.R_ne ho hb ht
theorem bK.lt {w0 W:World} {g:Nat} {f0:List Int} {f1:Int} {f2:Int} (h:bK w0 W g f0 f1 f2):g < W.heap.size:=by
 obtain ⟨A0,c0,hb,hg,hr0⟩:=h;exact eE hb
theorem bK.ge {w0 W:World} {g:Nat} {f0:List Int} {f1:Int} {f2:Int} (h:bK w0 W g f0 f1 f2):w0.heap.size≤g:=by
 obtain ⟨A0,c0,hb,hg,hr0⟩:=h;exact hg
theorem bK.ne_blk {w0 W:World} {g:Nat} {f0:List Int} {f1:Int} {f2:Int} {a:Nat} {cs:Array Value} {t:TypeId} {fr:Nat × Nat} (h:bK w0 W g f0 f1 f2) (hb2:W.heap[a]? = some (.cells cs t fr)) (ht:t≠121):g≠a:=by
 obtain ⟨A0,c0,hb,hg,hr0⟩:=h;rintro rfl;rw [hb] at hb2
 injection hb2 with hb2
 injection hb2 with _ ht2
 exact ht ht2.symm
theorem bK.far {w0 W:World} {g:Nat} {f0:List Int} {f1:Int} {f2:Int} {p:Addr} (h:bK w0 W g f0 f1 f2) (hne:g≠p.block) (u:Value):bK w0 (W.setCell p u) g f0 f1 f2:=by
 obtain ⟨A0,c0,hb,hg,hr0⟩:=h;exact ⟨A0,c0,eL hb hne u,hg,hr0⟩
theorem oE {W:World} {g:Nat} {A0:Option Addr} {c0:Nat} {f0:List Int} {f1:Int} {f2:Int} (h:W.heap[g]? = some (.cells #[.slice A0 f0.length c0,.int .i64 f1,.int .i64 f2] 121 (0,0))):W.cell? ⟨g,0,none⟩=some (.slice A0 f0.length c0):=(aY h 0).trans rfl
theorem oF {W:World} {g:Nat} {A0:Option Addr} {c0:Nat} {f0:List Int} {f1:Int} {f2:Int} (h:W.heap[g]? = some (.cells #[.slice A0 f0.length c0,.int .i64 f1,.int .i64 f2] 121 (0,0))):W.cell? ⟨g,1,none⟩=some (.int .i64 f1):=(aY h 1).trans rfl
theorem bK.set_1 {w0 W:World} {g:Nat} {f0:List Int} {f1:Int} {f2:Int} (h:bK w0 W g f0 f1 f2) (x:Int):bK w0 (W.setCell ⟨g,1,none⟩ (.int .i64 x)) g f0 x f2:=by
 obtain ⟨A0,c0,hb,hg,hr0⟩:=h;exact ⟨A0,c0,by simpa using qI hb 1 (.int .i64 x),hg,hr0⟩
theorem oG {W:World} {g:Nat} {A0:Option Addr} {c0:Nat} {f0:List Int} {f1:Int} {f2:Int} (h:W.heap[g]? = some (.cells #[.slice A0 f0.length c0,.int .i64 f1,.int .i64 f2] 121 (0,0))):W.cell? ⟨g,2,none⟩=some (.int .i64 f2):=(aY h 2).trans rfl
theorem bK.set_2 {w0 W:World} {g:Nat} {f0:List Int} {f1:Int} {f2:Int} (h:bK w0 W g f0 f1 f2) (x:Int):bK w0 (W.setCell ⟨g,2,none⟩ (.int .i64 x)) g f0 f1 x:=by
 obtain ⟨A0,c0,hb,hg,hr0⟩:=h;exact ⟨A0,c0,by simpa using qI hb 2 (.int .i64 x),hg,hr0⟩
def dI.l0:Nat→List Int→Int→Int→Option (List Int × Int × Int)
 | 0,_,_,_=>none
 | k + 1,x0,x3,x4=>if x4 < (x0.length:Int) then (if x4 < 4000 then (if 0≤x4 then (dI.l0 k x0 (Go.bits .and .i64 (wrap64 ((wrap64 ((wrap64 (x3 * 131)) + (wrap64 (rd x0 x4)))) + 7)) 1073741823) (wrap64 (x4 + 1))) else (none)) else (some (x0,0,x3))) else (some (x0,0,x3))
def dI.f (k:Nat) (l0:List Int):Option (List Int × Int × Int):=dI.l0 k l0 (wrap64 (118118 + (l0.length:Int))) 0
theorem dI.calls (k:Nat) (A0:Option Addr) (c0:Nat) (l0:List Int) (r1:List Int) (r2:Int) (r3:Int) (w0 w:World) (hB:Below w0.heap.size w0 w) (hr0:Kd.C (Kd.int .u8) w0 A0 l0.length l0) (hc0:l0.length≤c0) (h:dI.f k l0=some (r1,r2,r3)) :
  Calls Try.prog 54 #[.slice A0 l0.length c0] w fun e w'=>∃ g_:Nat,e = .returned (.pointer (some ⟨g_,0,none⟩))∧bK w0 w' g_ r1 r2 r3∧Below w0.heap.size w0 w'∧Below w.heap.size w w':=by
 have hu121:=Try.underlying121;have HR0:=aA.mk hr0;have HC0:=aA.mk hc0;clear hr0 hc0;have HBW:=aA.mk (Below.refl w.heap.size w);have HW0:=aA.mk hB.size;have HB:=aA.mk hB;clear hB;have H:(dI.l0 k l0 (wrap64 (118118 + (l0.length:Int))) 0)=some (r1,r2,r3):=h;clear h;have H':=aA.mk H;clear H
 go_enter Try.func54,Try.ntmps54
 go_wp2
 go_loopg [3,4] k (fun kq v3 v4 w'=>∃ (A2:Int) (A1:Int),v3 = .int .i64 A2∧v4 = .int .i64 A1∧aA (dI.l0 kq l0 A2 A1=some (r1,r2,r3))∧aA (kq≤k)∧aA (Below w0.heap.size w0 w')∧aA (Below w.heap.size w w'))
 case atStart=>exact ⟨(wrap64 (118118 + (l0.length:Int))),(0),(by first|rfl|(simp;done)|(simp [*];done)),(by first|rfl|(simp;done)|(simp [*];done)),H',⟨Nat.le_refl _⟩,⟨by exact tb HB⟩,⟨by repeat (first|(with_reducible first|exact HBW.out|apply bQ|apply bD|apply bO)|exact HBW.out)⟩⟩
 case round =>
  clear H';obtain ⟨A2,A1,rfl,rfl,HA,HK1,HB,HBW⟩:=hrel
  cases gk with
  | zero=>exact absurd HA.out (by simp [dI.l0])
  | succ k1 =>
   have H:=HA.out;clear HA;simp only [dI.l0] at H
   by_cases c2:A1 < (l0.length:Int)
   ·rw [if_pos c2] at H;have c2b0:decide (A1 < (l0.length:Int))=true:=decide_eq_true c2;clear c2
    by_cases c3:A1 < 4000
    ·rw [if_pos c3] at H;have c3b0:decide (A1 < 4000)=true:=decide_eq_true c3;clear c3
     by_cases c4:0≤A1
     ·rw [if_pos c4] at H;have c4b0:decide (0≤A1)=true:=decide_eq_true c4;clear c4;have H':=aA.mk H;clear H;have p101:0≤(A1:Int):=od;have q101:A1 < (l0.length:Int):=od;obtain ⟨ad101,e101,hx101_0⟩:=Kd.at_int HR0.out A1 p101 q101;cases e101;replace hx101_0:=iW HB.out hx101_0;replace p101:=eq_true p101;replace q101:=eq_true q101;go_wp2;go_roundg k1
      case measure=>have:=HK1.out;omega
      case rel=>exact ⟨(Go.bits .and .i64 (wrap64 ((wrap64 ((wrap64 (A2 * 131)) + (wrap64 (rd l0 A1)))) + 7)) 1073741823),(wrap64 (A1 + 1)),(by first|rfl|(simp;done)|(simp [*];done)),(by first|rfl|(simp;done)|(simp [*];done)),H',⟨by have:=HK1.out;omega⟩,⟨by exact tb HB⟩,⟨by repeat (first|(with_reducible first|exact HBW.out|apply bQ|apply bD|apply bO)|exact HBW.out)⟩⟩
     ·rw [if_neg c4] at H;exact absurd H (by simp)
    ·rw [if_neg c3] at H;have c3b0:decide (A1 < 4000)=false:=decide_eq_false c3;clear c3;simp only [Option.some.injEq,Prod.mk.injEq] at H;obtain ⟨rfl,rfl,rfl⟩:=H;go_wp2_with (first|((with_reducible refine bF (N:=31) rfl ?_);refine bx (N:=31) (cs:=#[.slice A0 l0.length c0,.int .i64 0,.int .i64 A2]) (t:=121) ?_;intro A3 hg w5 hbox hb;replace HB:=aA.mk (aE (tb HB) hb);have A5:=aA.mk (hbox);have A6:=aA.mk ((by rw [hg];exact (aG (by repeat (first|(with_reducible first|exact HBW.out|apply bQ|apply bD|apply bO)|exact HBW.out))):w.heap.size≤A3));have A7:=aA.mk ((Nat.le_trans HW0.out (by rw [hg];exact (aG (by repeat (first|(with_reducible first|exact HBW.out|apply bQ|apply bD|apply bO)|exact HBW.out))):w.heap.size≤A3):w0.heap.size≤A3));replace HBW:=aA.mk (aE HBW.out hb);clear hb hbox hg));go_ret;exact ⟨_,rfl,(show bK w0 _ A3 l0 0 A2 from ⟨_,_,dr A5,A7.out,HR0.out⟩),tb HB,by repeat (first|(with_reducible first|exact HBW.out|apply bQ|apply bD|apply bO|refine cM ?_ A6.out)|exact HBW.out)⟩
   ·rw [if_neg c2] at H;have c2b0:decide (A1 < (l0.length:Int))=false:=decide_eq_false c2;clear c2;simp only [Option.some.injEq,Prod.mk.injEq] at H;obtain ⟨rfl,rfl,rfl⟩:=H;go_wp2_with (first|((with_reducible refine bF (N:=31) rfl ?_);refine bx (N:=31) (cs:=#[.slice A0 l0.length c0,.int .i64 0,.int .i64 A2]) (t:=121) ?_;intro A4 hg w6 hbox hb;replace HB:=aA.mk (aE (tb HB) hb);have A8:=aA.mk (hbox);have A9:=aA.mk ((by rw [hg];exact (aG (by repeat (first|(with_reducible first|exact HBW.out|apply bQ|apply bD|apply bO)|exact HBW.out))):w.heap.size≤A4));have Aa:=aA.mk ((Nat.le_trans HW0.out (by rw [hg];exact (aG (by repeat (first|(with_reducible first|exact HBW.out|apply bQ|apply bD|apply bO)|exact HBW.out))):w.heap.size≤A4):w0.heap.size≤A4));replace HBW:=aA.mk (aE HBW.out hb);clear hb hbox hg));go_ret;exact ⟨_,rfl,(show bK w0 _ A4 l0 0 A2 from ⟨_,_,dr A8,Aa.out,HR0.out⟩),tb HB,by repeat (first|(with_reducible first|exact HBW.out|apply bQ|apply bD|apply bO|refine cM ?_ A9.out)|exact HBW.out)⟩
theorem dJ {w0 W0 W:World} {g:Nat} {f0:List Int} {f1:Int} {f2:Int} {f0_:List Int} {f1_:Int} {f2_:Int} (hi:aA (bK w0 W0 g f0 f1 f2)) (h:bK w0 W0 g f0 f1 f2→bK w0 W g f0_ f1_ f2_:=by intro h_;repeat (first|(with_reducible first|exact h_|apply bK.alloc|apply bK.drewN|apply bK.drew|apply bK.set_1|apply bK.set_2|refine bK.far ?_ (aA.out (by assumption)) _)|exact h_)):bK w0 W g f0_ f1_ f2_:=h hi.out
theorem dX {w0 w W W1 W2:World} {g:Nat} {f0:List Int} {f1:Int} {f2:Int} (hb:aA (Below w0.heap.size w W)) (hi:aA (bK w0 W2 g f0 f1 f2)) (h:w0.heap.size≤g→Below w0.heap.size w W→Below w0.heap.size w W1:=by intro g_ h_;repeat (first|(with_reducible first|exact h_|apply bQ|apply bD|apply bO|refine cM ?_ g_|refine cM ?_ (aA.out (by assumption)))|exact h_)):Below w0.heap.size w W1:=h hi.out.ge hb.out
def bP.f (a0:Int):Option (Bool):=if a0=19 then (some true) else (some (a0 == 20))
theorem bP.calls (a0:Int) (r:Bool) (w:World) (h:bP.f a0=some r) :
  Calls Try.prog 103 #[.int .i64 a0] w fun e w'=>e = .returned (.bool r)∧bW w w':=by
 have H:(if a0=19 then (some true) else (some (a0 == 20)))=some r:=h;clear h
 by_cases c2:a0=19
 ·rw [if_pos c2] at H;have c2b0:(a0 == 19)=true:=beq_iff_eq.mpr c2;have c2b1:(a0 != 19)=false:=bne_eq_false_iff_eq.mpr c2;clear c2;obtain rfl:=os H
  go_enter Try.func103,Try.ntmps103
  go_wp2;go_ret;exact ⟨e1,dn⟩
 ·rw [if_neg c2] at H;have c2b0:(a0 == 19)=false:=beq_eq_false_iff_ne.mpr c2;have c2b1:(a0 != 19)=true:=bne_iff_ne.mpr c2;obtain rfl:=os H
  go_enter Try.func103,Try.ntmps103
  go_wp2;go_ret;exact ⟨e1,dn⟩
def cP.f (a0:Bool):Option (Int):=if a0=true then (some 1) else (some 0)
theorem cP.calls (a0:Bool) (r:Int) (w:World) (h:cP.f a0=some r) :
  Calls Try.prog 160 #[.bool a0] w fun e w'=>e = .returned (.int .i64 r)∧bW w w':=by
 have H:(if a0=true then (some 1) else (some 0))=some r:=h;clear h
 by_cases c2:a0=true
 ·subst c2
  have H1:(some 1)=some r:=by rw [if_pos rfl] at H;exact H
  clear H;have H:=H1;clear H1;obtain rfl:=os H
  go_enter Try.func160,Try.ntmps160
  go_wp2;go_ret;exact ⟨e1,dn⟩
 ·replace c2:=Bool.eq_false_iff.mpr c2;subst c2
  have H1:(some 0)=some r:=by rw [if_neg (show ¬ (false=true) by decide)] at H;exact H
  clear H;have H:=H1;clear H1;obtain rfl:=os H
  go_enter Try.func160,Try.ntmps160
  go_wp2;go_ret;exact ⟨e1,dn⟩
def cN.l0:Nat→List Int→Int→Option (List Int)
 | 0,_,_=>none
 | k + 1,x1,x2=>if x2 < 8 then (if x1.length < 17592186044416 then (cN.l0 k (x1 ++ [0]) (wrap64 (x2 + 1))) else (none)) else (some x1)
def cN.f (k:Nat)  : Option (List Int):=cN.l0 k (([]:List Int)) 0
theorem cN.calls (k:Nat)  (r:List Int) (w:World) (h:cN.f k=some r) :
  Calls Try.prog 82 #[] w fun e w'=>∃ v0_:Value,e = .returned (v0_)∧Kd.R (Kd.int .i64) 3 w' w.heap.size (fun _=>True) v0_ r∧Below w.heap.size w w':=by
 have HB:=aA.mk (Below.refl w.heap.size w);have H:(cN.l0 k (([]:List Int)) 0)=some r:=h;clear h;obtain ⟨y101,hy101⟩:∃ y_:List Int,y_=(([]:List Int)):=⟨_,rfl⟩;replace H:(cN.l0 k y101 0)=some r:=gQ hy101 H;have Ny101:=aA.mk hy101;clear hy101;have H':=aA.mk H;clear H
 go_enter Try.func82,Try.ntmps82
 go_wp2_with (first|((with_reducible refine bF (N:=3) rfl ?_);refine Kd.R_lit (Kd.int .i64) _ 3 ?hg (N:=3) ?hd (xs:=([]:List Int)) (inner:=[]) (ok:=fun _=>True) (okp:=fun _=>True) ?hr ?hp (fun _ hk=>hk) trivial (Below.refl _ _) (Nat.le_refl _) (by simp) ?_;(case hd=>rfl);(case hg=>rfl);(case hr=>first|(go_simp;done)|(go_simp;rfl));(case hp=>exact (cQ.none _ _));intro v102 w1 ho2 hb hg_ hnew_;clear hg_ hnew_;(first|rw [← Ny101.out] at ho2|(simp only [Int.reduceToNat] at ho2;rw [← Ny101.out] at ho2));have A3:=aA.mk (Kd.R_lower ho2 (aG (tb HB)));replace HB:=aA.mk (aE (tb HB) hb);clear hb ho2))
 go_loopg [1,2] k (fun kq v1 v2 w'=>∃ (A1:List Int) (A0:Int),v2 = .int .i64 A0∧aA (cN.l0 kq A1 A0=some r)∧aA (kq≤k)∧aA (Kd.R (Kd.int .i64) 3 w' w.heap.size (fun _=>True) v1 A1)∧aA (Below w.heap.size w w'))
 case atStart=>exact ⟨(y101),(0),(by first|rfl|(simp;done)|(simp [*];done)),H',⟨Nat.le_refl _⟩,⟨ra A3⟩,⟨by exact tb HB⟩⟩
 case round =>
  clear H';obtain ⟨A1,A0,rfl,HA,HK1,A2,HB⟩:=hrel
  cases gk with
  | zero=>exact absurd HA.out (by simp [cN.l0])
  | succ k1 =>
   have H:=HA.out;clear HA;simp only [cN.l0] at H
   by_cases c3:A0 < 8
   ·rw [if_pos c3] at H;have c3b0:decide (A0 < 8)=true:=decide_eq_true c3;clear c3
    by_cases c4:A1.length < 17592186044416
    ·rw [if_pos c4] at H;have LMc4:=aA.mk c4;clear c4;obtain ⟨y104,hy104⟩:∃ y_:List Int,y_=(A1 ++ [0]):=⟨_,rfl⟩;replace H:(cN.l0 k1 y104 (wrap64 (A0 + 1)))=some r:=gQ hy104 H;have Ny104:=aA.mk hy104;clear hy104;have H':=aA.mk H;clear H;go_wp2_with (first|((with_reducible refine cD (b := .append) (xs:=#[.tmp 8,.tmp 9]) rfl ?_);at_builtin;refine Kd.R_append (Kd.int .i64) (w0:=w) w.heap.size rfl (.tmp 8) (.tmp 9) 31 3 (.int .i64 0) 8 rfl Try.underlying31 info3 rfl (by decide) (by omega) u1 A1 0 [.int .i64 0] (fun _=>True) (fun _=>False) rfl rfl ?aP (fun _ hk=>hk.elim) ?aF ?aO ?aB ?aS ?aL ?_;(case aP=>exact rfl);(case aB=>exact (tb HB));(case aF=>exact (fun _ _=>trivial));(case aO=>exact (ra A2));(case aS=>exact (aG (tb HB)));(case aL=>have:=LMc4.out;omega);intro v105 w5 ho hb hg hat;rw [← Ny104.out] at ho;replace HB:=aA.mk (hb);have A4:=aA.mk (ho);clear A2;clear ho hb hg hat));go_roundg k1
     case measure=>have:=HK1.out;omega
     case rel=>exact ⟨(y104),(wrap64 (A0 + 1)),(by first|rfl|(simp;done)|(simp [*];done)),H',⟨by have:=HK1.out;omega⟩,⟨ra A4⟩,⟨by exact tb HB⟩⟩
    ·rw [if_neg c4] at H;exact absurd H (by simp)
   ·rw [if_neg c3] at H;have c3b0:decide (A0 < 8)=false:=decide_eq_false c3;clear c3;obtain rfl:=os H;go_wp2;go_ret;exact ⟨_,er,ra A2,tb HB⟩
end Go.Proofs.Ythipjoioicmcnaa.G
namespace Go.Proofs.Ythipjoioicmcnaa.Pure
open Go.RowKit Go.Proofs.YthipjoioicmcnaaW.PrintWords Go.Proofs.YthipjoioicmcnaaW.PrintLast Go.Proofs.YthipjoioicmcnaaW.PrintMore
theorem rounds {R:Type} (L:Nat→Nat→Option R) (n:Nat) (r:R) (step:∀ k i,i < n→L (k + 1) i=L k (i + 1)) (stop:∀ k,L (k + 1) n=some r):∀ k,n < k→L k 0=some r:=by
 have h:∀ d i k,i + d=n→d < k→L k i=some r:=by
  intro d
  induction d with
  | zero =>
   intro i k hi hk
   obtain ⟨k,rfl⟩:∃ m,k=m + 1:=⟨k - 1,by omega⟩
   obtain rfl:i=n:=by omega
   exact stop k
  | succ d ih =>
   intro i k hi hk
   obtain ⟨k,rfl⟩:∃ m,k=m + 1:=⟨k - 1,by omega⟩
   rw [step k i (by omega)]
   exact ih (i + 1) k (by omega) (by omega)
 exact fun k hk=>h n 0 k (by omega) hk
theorem wO {R:Type} (L:Nat→Nat→R) (n:Nat) (p:Nat→Bool) (S E:Nat→R) (step:∀ k i,i < n→(∀ j,j < i→p j=true)→p i=true→L (k + 1) i=L k (i + 1))
  (exit:∀ k i,i < n→(∀ j,j < i→p j=true)→p i=false→L (k + 1) i=E k) (stop:∀ k,(∀ j,j < n→p j=true)→L (k + 1) n=S k) :
  ∀ k,n < k→∃ j,k - n - 1≤j∧j < k∧L k 0=if (List.range n).all p then S j else E j:=by
 have h:∀ d i k,i + d=n→d < k→(∀ j,j < i→p j=true)→∃ j,k - d - 1≤j∧j < k∧L k i=if (List.range n).all p then S j else E j:=by
  intro d
  induction d with
  | zero =>
   intro i k hi hk hp
   obtain ⟨k,rfl⟩:∃ m,k=m + 1:=⟨k - 1,by omega⟩
   obtain rfl:i=n:=by omega
   refine ⟨k,by omega,by omega,?_⟩
   rw [stop k hp,if_pos (List.all_eq_true.2 fun x hx=>hp x (by simpa using hx))]
  | succ d ih =>
   intro i k hi hk hp
   obtain ⟨k,rfl⟩:∃ m,k=m + 1:=⟨k - 1,by omega⟩
   cases hpi:p i with
   | true =>
    obtain ⟨j,h1,h2,h3⟩:=ih (i + 1) k (by omega) (by omega) (fun j hj=>by
     rcases Nat.eq_or_lt_of_le (Nat.lt_succ_iff.1 hj) with e|e
     ·exact e ▸ hpi
     ·exact hp j e)
    exact ⟨j,by omega,by omega,(step k i (by omega) hp hpi).trans h3⟩
   | false =>
    refine ⟨k,by omega,by omega,?_⟩
    rw [exit k i (by omega) hp hpi,if_neg (fun ha=>by have:=List.all_eq_true.1 ha i (by simp;omega);rw [hpi] at this;cases this)]
 exact fun k hk=>h n 0 k (by omega) hk (fun j hj=>absurd hj (by omega))
theorem tY {R:Type} (L:Nat→Nat→Option R) (n:Nat) (p:Nat→Bool) (r bad:R) (step:∀ k i,i < n→(∀ j,j < i→p j=true)→p i=true→L (k + 1) i=L k (i + 1))
  (exit:∀ k i,i < n→(∀ j,j < i→p j=true)→p i=false→L (k + 1) i=some bad) (stop:∀ k,(∀ j,j < n→p j=true)→L (k + 1) n=some r) :
  ∀ k,n < k→L k 0=some (if (List.range n).all p then r else bad):=by
 intro k hk
 obtain ⟨j,_,_,h⟩:=wO L n p (fun _=>some r) (fun _=>some bad) step exit stop k hk
 rw [h]
 split <;> rfl
theorem jR {n:Int} (h0 : -9223372036854775808≤n) (h1:n≤9223372036854775807):wrap64 n=n:=by
 unfold wrap64
 omega
theorem eP (i:Nat) (h:i < 4611686018427387904):wrap64 ((i:Int) + 1)=((i + 1:Nat):Int):=by
 rw [jR (by omega) (by omega)]
 omega
theorem zF {a:Int} (h0:0≤a) (h1:a≤18446744073709551615):IntKind.u64.wrap a=a:=by
 have h:IntKind.u64.wrap a=a % 18446744073709551616:=by
  simp [IntKind.wrap,IntKind.bits,IntKind.signed]
 rw [h]
 omega
theorem eO (xs:List Int) (i:Nat):rd xs (i:Int)=xs.getD i 0:=by unfold rd;simp
theorem yQ {α:Type} (d:α) (xs:List α) (i:Nat):cL d xs (i:Int)=xs.getD i d:=by unfold cL;simp
theorem dZ {α:Type} (xs:List α) (i:Nat) (d:α) (h:i < xs.length):xs.getD i d=xs[i]:=by
 rw [List.getD_eq_getElem?_getD,List.getElem?_eq_getElem h]
 rfl
theorem oX {α:Type} (xs:List α) (i:Nat) (d:α) (h:i < xs.length):xs.take (i + 1)=xs.take i ++ [xs.getD i d]:=by
 rw [List.take_succ_eq_append_getElem h,dZ xs i d h]
theorem pY {α:Type} (p l:List α) (i:Nat) (v:α) (hl:p.length=l.length) (h:i < l.length) (hv:p[i]? = some v):(p.take i ++ l.drop i).set i v=p.take (i + 1) ++ l.drop (i + 1):=by
 apply List.ext_getElem?
 intro j
 by_cases hj:j=i
 ·subst hj
  rw [List.getElem?_set_self (by simp;omega),List.getElem?_append_left (by simp;omega),List.getElem?_take_of_lt (by omega),hv]
 ·rw [List.getElem?_set_ne (by omega)]
  rcases Nat.lt_or_ge j i with h1|h1
  ·rw [List.getElem?_append_left (by simp;omega),List.getElem?_append_left (by simp;omega),List.getElem?_take_of_lt (by omega),List.getElem?_take_of_lt (by omega)]
  ·rw [List.getElem?_append_right (by simp;omega),List.getElem?_append_right (by simp;omega)]
   simp only [List.length_take,List.getElem?_drop]
   congr 1
   omega
theorem xG (s:ByteArray) (i:Nat) (h:i < s.size):bt s (i:Int)=(s[i].toNat:Int):=by
 unfold bt
 simp [h]
theorem nU (s:ByteArray):s.toList=s.data.toList:=ByteArray.toList_eq s
end Go.Proofs.Ythipjoioicmcnaa.Pure
namespace Go.Proofs.Ythipjoioicmcnaa.G
open Go.RowKit Go.Proofs.YthipjoioicmcnaaW.PrintWords Go.Proofs.YthipjoioicmcnaaW.PrintLast Go.Proofs.YthipjoioicmcnaaW.PrintMore Go.Proofs.Ythipjoioicmcnaa.Sh
attribute [local go_sem] dP dR eA eB dB dC dQ dS
def dO.f (a0:Int) (a1:Int):Option (Int):=if 0≤(IntKind.u64.wrap (a0)) then (some (Go.bits .and .i64 a1 (wrap64 ((shl .i64 1 (IntKind.u64.wrap (a0))) - 1)))) else (none)
theorem dO.calls (a0:Int) (a1:Int) (r:Int) (w:World) (h:dO.f a0 a1=some r) :
  Calls Try.prog 64 #[.int .i64 a0,.int .i64 a1] w fun e w'=>e = .returned (.int .i64 r)∧bW w w':=by
 have H:(if 0≤(IntKind.u64.wrap (a0)) then (some (Go.bits .and .i64 a1 (wrap64 ((shl .i64 1 (IntKind.u64.wrap (a0))) - 1)))) else (none))=some r:=h;clear h;obtain ⟨ji3,hji3⟩:∃ j_:Int,(IntKind.u64.wrap (a0))=j_:=⟨_,rfl⟩
 replace H:(if 0≤(ji3) then (some (Go.bits .and .i64 a1 (wrap64 ((shl .i64 1 (ji3)) - 1)))) else (none))=some r:=by first|(rw [hji3] at H;exact H)|(simp only [hji3] at H ⊢;exact H)
 by_cases c4:0≤(ji3)
 ·rw [if_pos c4] at H;have c4b0:=eq_true c4;have c4b1:decide (0≤(ji3))=true:=decide_eq_true c4;clear c4;obtain ⟨ji5,hji5⟩:∃ j_:Int,(shl .i64 1 (ji3))=j_:=⟨_,rfl⟩
  replace H:(some (Go.bits .and .i64 a1 (wrap64 ((ji5) - 1))))=some r:=by first|(rw [hji5] at H;exact H)|(simp only [hji5] at H ⊢;exact H)
  have hji5_:(IntKind.i64.wrap (1 * 2 ^ min (ji3).toNat 64))=ji5:=hji5;have hji5z:(ji3)≤64→(IntKind.i64.wrap (1 * 2 ^ (ji3).toNat))=ji5:=gU hji5
  have hji5u:(IntKind.i64.wrap (2 ^ min (ji3).toNat 64))=ji5:=by have h_:=hji5_;rw [Int.one_mul] at h_;exact h_
  have hji5v:(ji3)≤64→(IntKind.i64.wrap (2 ^ (ji3).toNat))=ji5:=fun hle_=>by have h_:=hji5z hle_;rw [Int.one_mul] at h_;exact h_
  have hji5y:(wrap64 (1 * 2 ^ min (ji3).toNat 64))=ji5:=(aJ _).symm.trans hji5_
  have hji5x:(ji3)≤64→(wrap64 (1 * 2 ^ (ji3).toNat))=ji5:=fun h_=>(aJ _).symm.trans (hji5z h_)
  obtain rfl:=os H
  go_enter Try.func64,Try.ntmps64
  go_wp2;go_ret;exact ⟨by first|rfl|(simp;done)|(simp only [← hji3,← hji5] <;> (first|rfl|simp))|(simp [*];done),by repeat (first|exact bW.refl _|apply bW.step)⟩
 ·rw [if_neg c4] at H;exact absurd H (by simp)
def eT.f (Aa:Int) (A0:ByteArray):Option (Int):=(strings_Contains.f A0 (⟨#[49]⟩:ByteArray)).bind fun A6=>(if A6=true then ((strings_Contains.f A0 (⟨#[48]⟩:ByteArray)).bind fun A7=>(if A7=true then (some (-1)) else ((cZ.f A6).bind fun A5=>(some A5)))) else ((cZ.f A6).bind fun A9=>(some A9)))
theorem eT.calls (Aa:Int) (A0:ByteArray) (r:Int) (w:World) (h:eT.f Aa A0=some r) :
  Calls Try.prog 65 #[.agg #[.int .i64 Aa,.string A0]] w fun e w'=>e = .returned (.int .i64 r)∧Below w.heap.size w w':=by
 have hu26:=Try.underlying26;have HB:=aA.mk (Below.refl w.heap.size w);have H:((strings_Contains.f A0 (⟨#[49]⟩:ByteArray)).bind fun A6=>(if A6=true then ((strings_Contains.f A0 (⟨#[48]⟩:ByteArray)).bind fun A7=>(if A7=true then (some (-1)) else ((cZ.f A6).bind fun A5=>(some A5)))) else ((cZ.f A6).bind fun A9=>(some A9))))=some r:=h;clear h;replace H:=ob H;obtain ⟨A6,A20,H⟩:=H
 try dsimp only at H
 have A2:=aA.mk A20;clear A20
 by_cases c3:A6=true
 ·subst c3
  have H1:((strings_Contains.f A0 (⟨#[48]⟩:ByteArray)).bind fun A7=>(if A7=true then (some (-1)) else ((cZ.f true).bind fun A5=>(some A5))))=some r:=by rw [if_pos rfl] at H;exact H
  clear H;have H:=H1;clear H1;replace H:=ob H;obtain ⟨A7,A40,H⟩:=H;replace H:(if A7=true then (some (-1)) else ((cZ.f true).bind fun A5=>(some A5)))=some r:=H;have A4:=aA.mk A40;clear A40
  by_cases c5:A7=true
  ·subst c5
   have H1:(some (-1))=some r:=by rw [if_pos rfl] at H;exact H
   clear H;have H:=H1;clear H1;obtain rfl:=os H
   go_enter Try.func65,Try.ntmps65
   go_wp2_with (first|((with_reducible refine bF (N:=1) rfl ?_);refine bx (N:=1) (cs:=#[.int .i64 Aa,.string A0]) (t:=26) ?_;intro A1 hg w6 hbox hb;have A3:=aA.mk (hbox);have Ab:=aA.mk ((by rw [hg];exact (aG (tb HB)):w.heap.size≤A1));have Ac:=aA.mk ((by rw [hg];exact (aG (tb HB)):w.heap.size≤A1));replace HB:=aA.mk (aE (tb HB) hb);clear hb hbox hg;have hcz7__:=gP A3;have hfz7__:=f_ A3)|((with_reducible refine aD (f:=112) rfl ?_);refine aI (some 6) rfl rfl Try.func112 (by kernel_rfl) rfl #[.string A0,.string (⟨#[49]⟩:ByteArray)] rfl ml ?_;(with_reducible refine (strings_Contains.calls A0 (⟨#[49]⟩:ByteArray) true _ A2.out).mono ?_);rintro e w' ⟨rfl,⟨nd,rfl⟩⟩;refine ⟨_,rfl,?_⟩)|(go_at_call 112;(try simp only [aJ,aN]);(with_reducible refine (strings_Contains.calls A0 (⟨#[48]⟩:ByteArray) true _ A4.out).mono ?_);rintro e w' ⟨rfl,⟨nd,rfl⟩⟩));go_ret;exact ⟨er,tb HB⟩
  ·replace c5:=Bool.eq_false_iff.mpr c5;subst c5
   have H1:((cZ.f true).bind fun A5=>(some A5))=some r:=by rw [if_neg (show ¬ (false=true) by decide)] at H;exact H
   clear H;have H:=H1;clear H1;replace H:=ob H;obtain ⟨A5,A80,H⟩:=H;replace H:(some A5)=some r:=H;have A8:=aA.mk A80;clear A80;obtain rfl:=os H
   go_enter Try.func65,Try.ntmps65
   go_wp2_with (first|((with_reducible refine bF (N:=1) rfl ?_);refine bx (N:=1) (cs:=#[.int .i64 Aa,.string A0]) (t:=26) ?_;intro A1 hg w9 hbox hb;have A3:=aA.mk (hbox);have Ab:=aA.mk ((by rw [hg];exact (aG (tb HB)):w.heap.size≤A1));have Ac:=aA.mk ((by rw [hg];exact (aG (tb HB)):w.heap.size≤A1));replace HB:=aA.mk (aE (tb HB) hb);clear hb hbox hg;have hcz10__:=gP A3;have hfz10__:=f_ A3)|((with_reducible refine aD (f:=112) rfl ?_);refine aI (some 6) rfl rfl Try.func112 (by kernel_rfl) rfl #[.string A0,.string (⟨#[49]⟩:ByteArray)] rfl ml ?_;(with_reducible refine (strings_Contains.calls A0 (⟨#[49]⟩:ByteArray) true _ A2.out).mono ?_);rintro e w' ⟨rfl,⟨nd,rfl⟩⟩;refine ⟨_,rfl,?_⟩)|(go_at_call 112;(try simp only [aJ,aN]);(with_reducible refine (strings_Contains.calls A0 (⟨#[48]⟩:ByteArray) false _ A4.out).mono ?_);rintro e w' ⟨rfl,⟨nd,rfl⟩⟩)|((with_reducible refine aD (f:=111) rfl ?_);refine aI (some 14) rfl rfl Try.func111 (by kernel_rfl) rfl #[.bool true] rfl ml ?_;(with_reducible refine (cZ.calls true A5 _ A8.out).mono ?_);rintro e w' ⟨rfl,⟨nd,rfl⟩⟩;refine ⟨_,rfl,?_⟩));go_ret;exact ⟨er,tb HB⟩
 ·replace c3:=Bool.eq_false_iff.mpr c3;subst c3
  have H1:((cZ.f false).bind fun A9=>(some A9))=some r:=by rw [if_neg (show ¬ (false=true) by decide)] at H;exact H
  clear H;have H:=H1;clear H1;replace H:=ob H;obtain ⟨A9,A110,H⟩:=H;replace H:(some A9)=some r:=H;have A11:=aA.mk A110;clear A110;obtain rfl:=os H
  go_enter Try.func65,Try.ntmps65
  go_wp2_with (first|((with_reducible refine bF (N:=1) rfl ?_);refine bx (N:=1) (cs:=#[.int .i64 Aa,.string A0]) (t:=26) ?_;intro A1 hg w12 hbox hb;have A3:=aA.mk (hbox);have Ab:=aA.mk ((by rw [hg];exact (aG (tb HB)):w.heap.size≤A1));have Ac:=aA.mk ((by rw [hg];exact (aG (tb HB)):w.heap.size≤A1));replace HB:=aA.mk (aE (tb HB) hb);clear hb hbox hg;have hcz13__:=gP A3;have hfz13__:=f_ A3)|((with_reducible refine aD (f:=112) rfl ?_);refine aI (some 6) rfl rfl Try.func112 (by kernel_rfl) rfl #[.string A0,.string (⟨#[49]⟩:ByteArray)] rfl ml ?_;(with_reducible refine (strings_Contains.calls A0 (⟨#[49]⟩:ByteArray) false _ A2.out).mono ?_);rintro e w' ⟨rfl,⟨nd,rfl⟩⟩;refine ⟨_,rfl,?_⟩)|((with_reducible refine aD (f:=111) rfl ?_);refine aI (some 14) rfl rfl Try.func111 (by kernel_rfl) rfl #[.bool false] rfl ml ?_;(with_reducible refine (cZ.calls false A9 _ A11.out).mono ?_);rintro e w' ⟨rfl,⟨nd,rfl⟩⟩;refine ⟨_,rfl,?_⟩));go_ret;exact ⟨er,tb HB⟩
mutual
def bZ.j0:Nat→Bool→Int→ByteArray→Option (Bool)
 | 0,_,_,_=>none
 | k + 1,x17,x102000,x102001=>if x17=true then (some false) else (bZ.l0 k (x102001.size:Int) 0 x102000 x102001)
def bZ.l0:Nat→Int→Int→Int→ByteArray→Option (Bool)
 | 0,_,_,_,_=>none
 | k + 1,x20,x21,x102000,x102001=>if x21 < x20 then (if 0≤x21 then (if x21 < (x102001.size:Int) then (if (bt x102001 x21)=48 then (bZ.l0 k x20 (wrap64 (x21 + 1)) x102000 x102001) else (if (bt x102001 x21)=49 then (bZ.l0 k x20 (wrap64 (x21 + 1)) x102000 x102001) else (some false))) else (none)) else (none)) else (some true)
end
def bZ.f (k:Nat) (A2:Int) (A1:ByteArray):Option (Bool):=(cA.f A2 0 12).bind fun A7=>(if A7=true then (if 0≤(IntKind.u64.wrap (A2)) then (bZ.j0 k ((A1.size:Int) != (shl .i64 1 (IntKind.u64.wrap (A2)))) A2 A1) else (none)) else (bZ.j0 k true A2 A1))
theorem bZ.calls (k:Nat) (A2:Int) (A1:ByteArray) (r:Bool) (w:World) (h:bZ.f k A2 A1=some r) :
  Calls Try.prog 45 #[.agg #[.int .i64 A2,.string A1]] w fun e w'=>e = .returned (.bool r)∧Below w.heap.size w w':=by
 have hu26:=Try.underlying26;have HB:=aA.mk (Below.refl w.heap.size w);have H:((cA.f A2 0 12).bind fun A7=>(if A7=true then (if 0≤(IntKind.u64.wrap (A2)) then (bZ.j0 k ((A1.size:Int) != (shl .i64 1 (IntKind.u64.wrap (A2)))) A2 A1) else (none)) else (bZ.j0 k true A2 A1)))=some r:=h;clear h;have HC2:=aA.mk H;clear H
 go_enter Try.func45,Try.ntmps45
 go_upto_region 1 with (first|((with_reducible refine bF (N:=1) rfl ?_);(try (refine eY (by rfl) ?_;dsimp only));refine bx (N:=1) (cs:=#[.int .i64 A2,.string A1]) (t:=26) ?_;intro A5 hg w3 hbox hb;have A3:=aA.mk (hbox);have GW101:=aA.mk ((by rw [hg];exact (aG (tb HB)):w.heap.size≤A5));have GE101:=aA.mk ((by rw [hg];exact (aG (tb HB)):w.heap.size≤A5));replace HB:=aA.mk (aE (tb HB) hb);clear hb hbox hg))
 (try simp only [Act.put,List.setIfInBounds_toArray,List.set_cons_zero,List.set_cons_succ])
 go_cut [17] (fun v17 wc=>∃ (kq:Nat) (A6:Bool),v17 = .bool A6∧aA (bZ.j0 kq A6 A2 A1=some r)∧aA (kq≤k)∧aA (wc.heap[A5]? = some (.cells #[.int .i64 A2,.string A1] 26 (0,0)))∧aA (Below w.heap.size w wc))
 case first =>
  have H:=HC2.out;clear HC2;replace H:=ob H;obtain ⟨A7,A40,H⟩:=H
  try dsimp only at H
  have A4:=aA.mk A40;clear A40
  by_cases c5:A7=true
  ·subst c5
   have H1:(if 0≤(IntKind.u64.wrap (A2)) then (bZ.j0 k ((A1.size:Int) != (shl .i64 1 (IntKind.u64.wrap (A2)))) A2 A1) else (none))=some r:=by rw [if_pos rfl] at H;exact H
   clear H;have H:=H1;clear H1;obtain ⟨ji6,hji6⟩:∃ j_:Int,(IntKind.u64.wrap (A2))=j_:=⟨_,rfl⟩
   replace H:(if 0≤(ji6) then (bZ.j0 k ((A1.size:Int) != (shl .i64 1 (ji6))) A2 A1) else (none))=some r:=by first|(rw [hji6] at H;exact H)|(simp only [hji6] at H ⊢;exact H)
   (try rw [hji6] at A4)
   by_cases c7:0≤(ji6)
   ·rw [if_pos c7] at H;have c7b0:=eq_true c7;have c7b1:decide (0≤(ji6))=true:=decide_eq_true c7;clear c7;obtain ⟨ji8,hji8⟩:∃ j_:Int,(shl .i64 1 (ji6))=j_:=⟨_,rfl⟩
    replace H:(bZ.j0 k ((A1.size:Int) != (ji8)) A2 A1)=some r:=by first|(rw [hji8] at H;exact H)|(simp only [hji8] at H ⊢;exact H)
    (try rw [hji8] at A4)
    have hji8_:(IntKind.i64.wrap (1 * 2 ^ min (ji6).toNat 64))=ji8:=hji8;have hji8z:(ji6)≤64→(IntKind.i64.wrap (1 * 2 ^ (ji6).toNat))=ji8:=gU hji8
    have hji8u:(IntKind.i64.wrap (2 ^ min (ji6).toNat 64))=ji8:=by have h_:=hji8_;rw [Int.one_mul] at h_;exact h_
    have hji8v:(ji6)≤64→(IntKind.i64.wrap (2 ^ (ji6).toNat))=ji8:=fun hle_=>by have h_:=hji8z hle_;rw [Int.one_mul] at h_;exact h_
    have hji8y:(wrap64 (1 * 2 ^ min (ji6).toNat 64))=ji8:=(aJ _).symm.trans hji8_
    have hji8x:(ji6)≤64→(wrap64 (1 * 2 ^ (ji6).toNat))=ji8:=fun h_=>(aJ _).symm.trans (hji8z h_)
    have H':=aA.mk H;clear H;have hcz9__:=gP A3;have hfz9__:=f_ A3;go_wp2_with (first|((with_reducible refine aD (f:=61) rfl ?_);refine aI (some 6) rfl rfl Try.func61 (by kernel_rfl) rfl #[.int .i64 A2,.int .i64 0,.int .i64 12] rfl ml ?_;(with_reducible refine (cA.calls A2 0 12 true _ A4.out).mono ?_);rintro e w' ⟨rfl,⟨nd,rfl⟩⟩;refine ⟨_,rfl,?_⟩));go_meet
    case rel=>exact ⟨_,(((A1.size:Int) != (ji8))),(by first|rfl|(simp;done)|(simp only [← hji8] <;> (first|rfl|simp))|(simp [*];done)),(by first|exact H'|(rw [hji8];exact H')),⟨by first|omega|exact Nat.le_refl _⟩,⟨dr A3⟩,⟨by exact tb HB⟩⟩
   ·rw [if_neg c7] at H;exact absurd H (by simp)
  ·replace c5:=Bool.eq_false_iff.mpr c5;subst c5
   have H1:(bZ.j0 k true A2 A1)=some r:=by rw [if_neg (show ¬ (false=true) by decide)] at H;exact H
   clear H;have H:=H1;clear H1;have H':=aA.mk H;clear H;have hcz10__:=gP A3;have hfz10__:=f_ A3;go_wp2_with (first|((with_reducible refine aD (f:=61) rfl ?_);refine aI (some 6) rfl rfl Try.func61 (by kernel_rfl) rfl #[.int .i64 A2,.int .i64 0,.int .i64 12] rfl ml ?_;(with_reducible refine (cA.calls A2 0 12 false _ A4.out).mono ?_);rintro e w' ⟨rfl,⟨nd,rfl⟩⟩;refine ⟨_,rfl,?_⟩));go_meet
   case rel=>exact ⟨_,(true),(by first|rfl|(simp;done)|(simp [*];done)),(by first|exact H'|(rw [hji8];exact H')),⟨by first|omega|exact Nat.le_refl _⟩,⟨dr A3⟩,⟨by exact tb HB⟩⟩
 case rest =>
  clear HC2;obtain ⟨kq,A6,rfl,HA,HJ1,A3,HB⟩:=hcut
  cases kq with
  | zero=>exact absurd HA.out (by simp [bZ.j0])
  | succ kj1 =>
   have H:=HA.out;clear HA;simp only [bZ.j0] at H
   by_cases c11:A6=true
   ·subst c11
    have H1:(some false)=some r:=by rw [if_pos rfl] at H;exact H
    clear H;have H:=H1;clear H1;obtain rfl:=os H;go_wp2;go_ret;exact ⟨er,tb HB⟩
   ·replace c11:=Bool.eq_false_iff.mpr c11;subst c11
    have H1:(bZ.l0 kj1 (A1.size:Int) 0 A2 A1)=some r:=by rw [if_neg (show ¬ (false=true) by decide)] at H;exact H
    clear H;have H:=H1;clear H1;have H':=aA.mk H;clear H;have hcz12__:=gP A3;have hfz12__:=f_ A3;go_wp2
    go_loopg [21] kj1 (fun kq v21 w'=>∃ (A0:Int),v21 = .int .i64 A0∧aA (bZ.l0 kq (A1.size:Int) A0 A2 A1=some r)∧aA (kq≤kj1)∧aA (w'.heap[A5]? = some (.cells #[.int .i64 A2,.string A1] 26 (0,0)))∧aA (Below w.heap.size w w'))
    case atStart=>exact ⟨(0),(by first|rfl|(simp;done)|(simp [*];done)),H',⟨Nat.le_refl _⟩,⟨dr A3⟩,⟨by exact tb HB⟩⟩
    case round =>
     clear H';obtain ⟨A0,rfl,HA,HK2,A3,HB⟩:=hrel
     cases gk with
     | zero=>exact absurd HA.out (by simp [bZ.l0])
     | succ k2 =>
      have H:=HA.out;clear HA;simp only [bZ.l0] at H
      by_cases c13:A0 < (A1.size:Int)
      ·rw [if_pos c13] at H;have c13b0:decide (A0 < (A1.size:Int))=true:=decide_eq_true c13;clear c13
       by_cases c14:0≤A0
       ·rw [if_pos c14] at H;have c14b0:decide (0≤A0)=true:=decide_eq_true c14;clear c14
        by_cases c15:A0 < (A1.size:Int)
        ·rw [if_pos c15] at H;have c15b0:decide (A0 < (A1.size:Int))=true:=decide_eq_true c15;clear c15
         by_cases c17:(bt A1 A0)=48
         ·rw [if_pos c17] at H;have c17b0:((bt A1 A0) == 48)=true:=beq_iff_eq.mpr c17;have c17b1:((bt A1 A0) != 48)=false:=bne_eq_false_iff_eq.mpr c17;clear c17;have H':=aA.mk H;clear H;have hcz18__:=gP A3;have hfz18__:=f_ A3;have p16:0≤(A0:Int):=od;have q16:A0 < (A1.size:Int):=od;have hx16:=lA A1 A0;replace p16:=eq_true p16;replace q16:=eq_true q16;go_wp2;go_roundg k2
          case measure=>have:=HJ1.out;have:=HK2.out;omega
          case rel=>exact ⟨(wrap64 (A0 + 1)),(by first|rfl|(simp;done)|(simp [*];done)),(by first|exact H'|(rw [hji8];exact H')),⟨by have:=HJ1.out;have:=HK2.out;omega⟩,⟨dr A3⟩,⟨by exact tb HB⟩⟩
         ·rw [if_neg c17] at H;have c17b0:((bt A1 A0) == 48)=false:=beq_eq_false_iff_ne.mpr c17;have c17b1:((bt A1 A0) != 48)=true:=bne_iff_ne.mpr c17
          by_cases c20:(bt A1 A0)=49
          ·rw [if_pos c20] at H;have c20b0:((bt A1 A0) == 49)=true:=beq_iff_eq.mpr c20;have c20b1:((bt A1 A0) != 49)=false:=bne_eq_false_iff_eq.mpr c20;clear c20;have H':=aA.mk H;clear H;have hcz21__:=gP A3;have hfz21__:=f_ A3;have p16:0≤(A0:Int):=od;have q16:A0 < (A1.size:Int):=od;have hx16:=lA A1 A0;replace p16:=eq_true p16;replace q16:=eq_true q16;have p19:0≤(A0:Int):=od;have q19:A0 < (A1.size:Int):=od;have hx19:=lA A1 A0;replace p19:=eq_true p19;replace q19:=eq_true q19;go_wp2;go_roundg k2
           case measure=>have:=HJ1.out;have:=HK2.out;omega
           case rel=>exact ⟨(wrap64 (A0 + 1)),(by first|rfl|(simp;done)|(simp [*];done)),(by first|exact H'|(rw [hji8];exact H')),⟨by have:=HJ1.out;have:=HK2.out;omega⟩,⟨dr A3⟩,⟨by exact tb HB⟩⟩
          ·rw [if_neg c20] at H;have c20b0:((bt A1 A0) == 49)=false:=beq_eq_false_iff_ne.mpr c20;have c20b1:((bt A1 A0) != 49)=true:=bne_iff_ne.mpr c20;obtain rfl:=os H;have hcz22__:=gP A3;have hfz22__:=f_ A3;have p16:0≤(A0:Int):=od;have q16:A0 < (A1.size:Int):=od;have hx16:=lA A1 A0;replace p16:=eq_true p16;replace q16:=eq_true q16;have p19:0≤(A0:Int):=od;have q19:A0 < (A1.size:Int):=od;have hx19:=lA A1 A0;replace p19:=eq_true p19;replace q19:=eq_true q19;go_wp2;go_ret;exact ⟨er,tb HB⟩
        ·rw [if_neg c15] at H;exact absurd H (by simp)
       ·rw [if_neg c14] at H;exact absurd H (by simp)
      ·rw [if_neg c13] at H;have c13b0:decide (A0 < (A1.size:Int))=false:=decide_eq_false c13;clear c13;obtain rfl:=os H;go_wp2;go_ret;exact ⟨er,tb HB⟩
end Go.Proofs.Ythipjoioicmcnaa.G
namespace Go.Proofs.Ythipjoioicmcnaa.G
open Go.RowKit Go.Proofs.YthipjoioicmcnaaW.PrintWords Go.Proofs.YthipjoioicmcnaaW.PrintLast Go.Proofs.YthipjoioicmcnaaW.PrintMore Go.Proofs.Ythipjoioicmcnaa.Sh Go.Proofs.Ythipjoioicmcnaa.Fv
attribute [local go_sem] dP dR eA eB dB dC dQ dS
def cX.l0 (a1:(Int→Option Bool)):Nat→List Int→Int→Int→Int→ByteArray→Option (Int × ByteArray)
 | 0,_,_,_,_,_=>none
 | k + 1,x5,x12,x13,x102000,x102001=>if x13 < x12 then ((a1 x13).bind fun Ac=>((cZ.f Ac).bind fun Ad=>((kI.f Ad).bind fun Ab=>(if 0≤x13 then (if x13 < (x5.length:Int) then (cX.l0 a1 k (x5.set (x13:Int).toNat Ab) x12 (wrap64 (x13 + 1)) x102000 x102001) else (none)) else (none))))) else (some (x102000,strOfNums x5))
def cX.f (k:Nat) (A4:Int) (A2:ByteArray) (a1:(Int→Option Bool)):Option (Int × ByteArray):=if 0≤(A2.size:Int) then (if ((A2.size:Int):Int).toNat≤281474976710656 then ((some (List.replicate ((A2.size:Int):Int).toNat 0:List Int)).bind fun y103=>(cX.l0 a1 k y103 (y103.length:Int) 0 A4 A2)) else (none)) else (none)
theorem cX.calls (k:Nat) (A4:Int) (A2:ByteArray) (c1_:Nat) (q1_:Array Value) (a1:(Int→Option Bool)) (r1:Int) (r2:ByteArray) (w:World) (hf1_:jX Try.prog c1_) (hp1_:∀ W_,Below w.heap.size w W_→∀ x_ r_,a1 x_=some r_→Calls Try.prog c1_ (#[.int .i64 x_] ++ q1_) W_ fun e_ W2_=>e_ = .returned (.bool r_)∧Below W_.heap.size W_ W2_) (h:cX.f k A4 A2 a1=some (r1,r2)) :
  Calls Try.prog 62 #[.agg #[.int .i64 A4,.string A2],.func (.func c1_) #[] q1_] w fun e w'=>e = .returned (.agg #[.int .i64 r1,.string r2])∧Below w.heap.size w w':=by
 have hu26:=Try.underlying26;have HF1_:=hf1_;have HP1_:=aA.mk hp1_;clear hf1_ hp1_;have HB:=aA.mk (Below.refl w.heap.size w);have H:(if 0≤(A2.size:Int) then (if ((A2.size:Int):Int).toNat≤281474976710656 then ((some (List.replicate ((A2.size:Int):Int).toNat 0:List Int)).bind fun y103=>(cX.l0 a1 k y103 (y103.length:Int) 0 A4 A2)) else (none)) else (none))=some (r1,r2):=h;clear h
 by_cases c3:0≤(A2.size:Int)
 ·rw [if_pos c3] at H;have c3b0:=eq_true c3;have c3b1:decide (0≤(A2.size:Int))=true:=decide_eq_true c3;clear c3
  by_cases c4:((A2.size:Int):Int).toNat≤281474976710656
  ·rw [if_pos c4] at H;have c4b0:=eq_true c4;have c4b1:decide (((A2.size:Int):Int).toNat≤281474976710656)=true:=decide_eq_true c4;clear c4;obtain ⟨y103,hy103⟩:∃ y_:List Int,y_=(List.replicate ((A2.size:Int):Int).toNat 0):=⟨_,rfl⟩;replace H:(cX.l0 a1 k y103 (y103.length:Int) 0 A4 A2)=some (r1,r2):=gQ hy103 H;have Ny103:=aA.mk hy103;clear hy103;have H':=aA.mk H;clear H
   go_enter Try.func62,Try.ntmps62
   go_wp2_with (first|((with_reducible refine bF (N:=2) rfl ?_);refine bx (N:=2) (cs:=#[.int .i64 A4,.string A2]) (t:=26) ?_;intro A5 hg w5 hbox hb;have A0:=aA.mk (hbox);have GW101:=aA.mk ((by rw [hg];exact (aG (tb HB)):w.heap.size≤A5));have GE101:=aA.mk ((by rw [hg];exact (aG (tb HB)):w.heap.size≤A5));replace HB:=aA.mk (aE (tb HB) hb);clear hb hbox hg)|((with_reducible refine bF (N:=4) rfl ?_);refine bx (N:=4) (cs:=#[.int .i64 0,.string (⟨#[]⟩:ByteArray)]) (t:=26) ?_;intro A7 hg w6 hbox hb;have A3:=aA.mk (hbox);have GW102:=aA.mk ((by rw [hg];exact (aG (tb HB)):w.heap.size≤A7));have GE102:=aA.mk ((by rw [hg];exact (aG (tb HB)):w.heap.size≤A7));replace HB:=aA.mk (aE (tb HB) hb);have A9:=aA.mk ((by rw [hg];exact Nat.ne_of_lt (eE (g:=A5) (o := .cells #[.int .i64 A4,.string A2] 26 (0,0)) (dr A0)):A5≠A7));have Aa:=aA.mk ((by rw [hg];exact Nat.ne_of_gt (eE (g:=A5) (o := .cells #[.int .i64 A4,.string A2] 26 (0,0)) (dr A0)):A7≠A5));replace A0:=aA.mk (aM (g:=A5) (o := .cells #[.int .i64 A4,.string A2] 26 (0,0)) (dr A0) hb);clear hb hbox hg;have hnb7:=A9.out;have hnc7:=Aa.out;have hcz8__:=gP A0;have hfz8__:=f_ A0)|((with_reducible refine bF (N:=10) rfl ?_);refine Kd.R_make (Kd.int .u8) _ 5 rfl (N:=10) rfl 22 _ _ rfl (A2.size:Int) rfl rfl Try.underlying22 (.int .u8 0) 1 pS rfl (by decide) (by omega) 0 (ok:=fun _=>True) (okp:=fun _=>True) rfl (fun _ hk=>hk) trivial (od) (Nat.le_trans (Nat.mul_le_mul_right _ (od:(A2.size:Int).toNat≤281474976710656)) (by omega)) (Below.refl _ _) (Nat.le_refl _) ?_;intro v104 w9 ho10 hb hg_ hnew_;clear hg_ hnew_;(first|rw [← Ny103.out] at ho10|(simp only [Int.reduceToNat] at ho10;rw [← Ny103.out] at ho10));have Af:=aA.mk (Kd.R_lower ho10 (aG (tb HB)));replace A0:=aA.mk (aM (g:=A5) (o := .cells #[.int .i64 A4,.string A2] 26 (0,0)) (dr A0) hb);replace A3:=aA.mk (aM (g:=A7) (o := .cells #[.int .i64 0,.string (⟨#[]⟩:ByteArray)] 26 (0,0)) (dr A3) hb);replace HB:=aA.mk (aE (tb HB) hb);clear hb ho10;obtain ⟨Ag,Ae,eo11⟩:=Kd.R_slice Af.out;subst eo11))
   go_loopg [13] k (fun kq v13 w'=>∃ (A8:List Int) (A1:Int),v13 = .int .i64 A1∧aA (cX.l0 a1 kq A8 (y103.length:Int) A1 A4 A2=some (r1,r2))∧aA (kq≤k)∧aA (Kd.R (Kd.int .u8) 5 w' w.heap.size (fun _=>True) (.slice Ag y103.length Ae) A8)∧aA (w'.heap[A5]? = some (.cells #[.int .i64 A4,.string A2] 26 (0,0)))∧aA (w'.heap[A7]? = some (.cells #[.int .i64 0,.string (⟨#[]⟩:ByteArray)] 26 (0,0)))∧aA (Below w.heap.size w w'))
   case atStart=>exact ⟨(y103),(0),(by first|rfl|(simp;done)|(simp [*];done)),H',⟨Nat.le_refl _⟩,⟨ra Af⟩,⟨dr A0⟩,⟨dr A3⟩,⟨by exact tb HB⟩⟩
   case round =>
    clear H';obtain ⟨A8,A1,rfl,HA,HK1,A6,A0,A3,HB⟩:=hrel;have hl5_1:=(Kd.R_reads' A6.out).1;rw [hl5_1] at A6
    (try simp only [hl5_1])
    (try simp only [hl5_1] at A0)
    (try simp only [hl5_1] at A3)
    cases gk with
    | zero=>exact absurd HA.out (by simp [cX.l0])
    | succ k1 =>
     have H:=HA.out;clear HA;simp only [cX.l0] at H
     by_cases c12:A1 < (y103.length:Int)
     ·rw [if_pos c12] at H;have c12b0:decide (A1 < (y103.length:Int))=true:=decide_eq_true c12;clear c12
      (try (have c12h0:=c12b0;simp only [hl5_1] at c12h0))
      replace H:=ob H;obtain ⟨Ac,A130,H⟩:=H
      try dsimp only at H
      have A13:=aA.mk A130;clear A130;replace H:=ob H;obtain ⟨Ad,A140,H⟩:=H
      try dsimp only at H
      have A14:=aA.mk A140;clear A140;replace H:=ob H;obtain ⟨Ab,A150,H⟩:=H
      try dsimp only at H
      have A15:=aA.mk A150;clear A150
      by_cases c16:0≤A1
      ·rw [if_pos c16] at H;have c16b0:decide (0≤A1)=true:=decide_eq_true c16;clear c16
       by_cases c17:A1 < (A8.length:Int)
       ·rw [if_pos c17] at H;have c17b0:decide (A1 < (A8.length:Int))=true:=decide_eq_true c17;clear c17
        (try (have c17h0:=c17b0;simp only [hl5_1] at c17h0))
        obtain ⟨y109,hy109⟩:∃ y_:List Int,y_=(A8.set (A1:Int).toNat Ab):=⟨_,rfl⟩;replace H:(cX.l0 a1 k1 y109 (y103.length:Int) (wrap64 (A1 + 1)) A4 A2)=some (r1,r2):=gQ hy109 H;have Ny109:=aA.mk hy109;clear hy109;have H':=aA.mk H;clear H
        go_wp2_with (first|((with_reducible refine qO (q := .tmp 18) rfl ?_);refine aDJ (some 20) rfl rfl HF1_ (by first|rfl|(go_simp;done)) #[.int .i64 A1] rfl ml ?_;(with_reducible refine (HP1_.out _ (tb HB) A1 Ac A13.out).mono ?_);rintro e w19 ⟨rfl,hb⟩;refine ⟨_,rfl,?_⟩;replace A6:=aA.mk (Kd.R_below (ra A6) hb);replace A0:=aA.mk (aM (g:=A5) (o := .cells #[.int .i64 A4,.string A2] 26 (0,0)) (dr A0) hb);replace A3:=aA.mk (aM (g:=A7) (o := .cells #[.int .i64 0,.string (⟨#[]⟩:ByteArray)] 26 (0,0)) (dr A3) hb);replace HB:=aA.mk (aE (tb HB) hb);(try clear hb);(try clear hb2);(try clear hk);(try clear hi))|((with_reducible refine aD (f:=111) rfl ?_);refine aI (some 21) rfl rfl Try.func111 (by kernel_rfl) rfl #[.bool Ac] rfl ml ?_;(with_reducible refine (cZ.calls Ac Ad _ A14.out).mono ?_);rintro e w' ⟨rfl,⟨nd,rfl⟩⟩;refine ⟨_,rfl,?_⟩;(try (rw [fS w19];generalize hq_:World.drewN w19 _=w19;have n0_:aA (Kd.R (Kd.int .u8) 5 w19 w.heap.size (fun _=>True) (.slice Ag A8.length Ae) A8):=⟨by rw [← hq_];exact (ra A6)⟩;have n1_:aA (w19.heap[A5]? = some (.cells #[.int .i64 A4,.string A2] 26 (0,0))):=⟨by rw [← hq_];exact (dr A0)⟩;have n2_:aA (w19.heap[A7]? = some (.cells #[.int .i64 0,.string (⟨#[]⟩:ByteArray)] 26 (0,0))):=⟨by rw [← hq_];exact (dr A3)⟩;have n3_:aA (Below w.heap.size w w19):=⟨by rw [← hq_];exact (tb HB)⟩;clear A6 A0 A3 HB hq_;have A6:=n0_;have A0:=n1_;have A3:=n2_;have HB:=n3_;clear n0_ n1_ n2_ n3_)))|((with_reducible refine aD (f:=88) rfl ?_);refine aI (some 22) rfl rfl Try.func88 (by kernel_rfl) rfl #[.int .i64 Ad] rfl ml ?_;(with_reducible refine (kI.calls Ad Ab _ A15.out).mono ?_);rintro e w' ⟨rfl,⟨nd,rfl⟩⟩;refine ⟨_,rfl,?_⟩;(try (rw [fS w19];generalize hq_:World.drewN w19 _=w19;have n0_:aA (Kd.R (Kd.int .u8) 5 w19 w.heap.size (fun _=>True) (.slice Ag A8.length Ae) A8):=⟨by rw [← hq_];exact (ra A6)⟩;have n1_:aA (w19.heap[A5]? = some (.cells #[.int .i64 A4,.string A2] 26 (0,0))):=⟨by rw [← hq_];exact (dr A0)⟩;have n2_:aA (w19.heap[A7]? = some (.cells #[.int .i64 0,.string (⟨#[]⟩:ByteArray)] 26 (0,0))):=⟨by rw [← hq_];exact (dr A3)⟩;have n3_:aA (Below w.heap.size w w19):=⟨by rw [← hq_];exact (tb HB)⟩;clear A6 A0 A3 HB hq_;have A6:=n0_;have A0:=n1_;have A3:=n2_;have HB:=n3_;clear n0_ n1_ n2_ n3_));have p18:0≤(A1:Int):=od;have q18:(A1:Int) < ((A8.length:Int):Int):=od;obtain ⟨go18,co18,eo18,Ah,gl18,cl18,HG18⟩:=Kd.R_form A6.out (by omega);(first|cases eo18|(injection eo18 with ea_ en_ ec_;(first|subst ea_|(injection ea_ with ea_;subst ea_));subst ec_;clear en_));have GB18:=aA.mk Ah;have GG18:=aA.mk HG18;clear Ah gl18 HG18;obtain ⟨hx18_0,hf18_0⟩:=Kd.R_celln 0 A6.out (A1:Int) p18 q18;replace p18:=eq_true p18;replace q18:=eq_true q18;obtain ⟨hy20_,hz20_⟩:=Kd.R_celln 0 A6.out (A1:Int) (od) (od);have HP20:=Kd.R_putg A6.out (A1:Int) Ab)|((with_reducible refine mD (t:=5) (p:=23) rfl ?_);refine lJ (t:=5) (p:=23) (v:=?vo_w21) (w1:=(w19.setCell ⟨go18,(A1:Int).toNat,none⟩ (.int .u8 Ab))) ?hg ?ho ?hn ?hr ?_;(case ho=>rfl);(case hg=>rfl);(case hn=>rfl);(case hr=>first|(go_simp;done)|(go_simp;rfl));intro w21 hw;have hg:w19.grownBy w21 (some go18):=(by rw [hw];exact HP20.2);have hp_:Kd.R (Kd.int .u8) 5 w21 w.heap.size (fun _=>True) (.slice (some ⟨go18,0,none⟩) A8.length Ae) y109:=(by rw [hw,Ny109.out];exact HP20.1);clear HP20;replace A0:=aA.mk (eW (g:=A5) (o := .cells #[.int .i64 A4,.string A2] 26 (0,0)) (dr A0) hg (Kd.R_ne A6.out A0.out (by decide)));replace A3:=aA.mk (eW (g:=A7) (o := .cells #[.int .i64 0,.string (⟨#[]⟩:ByteArray)] 26 (0,0)) (dr A3) hg (Kd.R_ne A6.out A3.out (by decide)));replace A6:=aA.mk (hp_);replace HB:=aA.mk ((by rw [hw];exact cM (HB.out) GB18.out:Below w.heap.size w w21));clear hg hw hp_))
        (try simp only [← hl5_1])
        go_roundg k1
        case measure=>have:=HK1.out;omega
        case rel=>exact ⟨(y109),(wrap64 (A1 + 1)),(by first|rfl|(simp;done)|(simp [*];done)),H',⟨by have:=HK1.out;omega⟩,⟨by (try simp only [hl5_1]);(with_reducible repeat (first|apply Kd.R_alloc|apply Kd.R_drewN|apply Kd.R_drew));exact A6.out⟩,⟨by (try simp only [hl5_1]);(with_reducible repeat (first|refine aW ?_ _|refine aU ?_|refine aX ?_ _));exact A0.out⟩,⟨by (try simp only [hl5_1]);(with_reducible repeat (first|refine aW ?_ _|refine aU ?_|refine aX ?_ _));exact A3.out⟩,⟨by exact tb HB⟩⟩
       ·rw [if_neg c17] at H
        (try (have c17h0:=c17b0;simp only [hl5_1] at c17h0))
        exact absurd H (by simp)
      ·rw [if_neg c16] at H;exact absurd H (by simp)
     ·rw [if_neg c12] at H;have c12b0:decide (A1 < (y103.length:Int))=false:=decide_eq_false c12;clear c12
      (try (have c12h0:=c12b0;simp only [hl5_1] at c12h0))
      simp only [Option.some.injEq,Prod.mk.injEq] at H;obtain ⟨rfl,rfl⟩:=H;have hnb22:=A9.out;have hnc22:=Aa.out;have hcz23__:=gP A0;have hfz23__:=f_ A0;have hcv24:=kX (P:=Try.prog) Try.underlying22 Try.underlying5 Try.underlying9 (Kd.own_of_R A6.out);have hcz25__:=gP A3;have hfz25__:=f_ A3;go_wp2;refine bodyPost_ret (results_cell_row rfl _ _ A7 26 #[.int .i64 A4,.string (strOfNums A8)] (0,0) _ rfl (by (with_reducible repeat (first|refine aW ?_ _|refine aU ?_|refine aX ?_ _));refine bU (cs:=#[.int .i64 A4,.string (⟨#[]⟩:ByteArray)]) ?_ 1 _ rfl;(with_reducible repeat (first|refine aW ?_ _|refine aU ?_|refine aX ?_ _));refine bU (cs:=#[.int .i64 0,.string (⟨#[]⟩:ByteArray)]) ?_ 0 _ rfl;(with_reducible repeat (first|refine aW ?_ _|refine aU ?_|refine aX ?_ _));exact A3.out) Try.underlying26 rfl (by kernel_rfl)) rfl ?_;exact ⟨er,tb HB⟩
  ·rw [if_neg c4] at H;exact absurd H (by simp)
 ·rw [if_neg c3] at H;exact absurd H (by simp)
end Go.Proofs.Ythipjoioicmcnaa.G
namespace Go.Proofs.Ythipjoioicmcnaa.G
open Go.RowKit Go.Proofs.YthipjoioicmcnaaW.PrintWords Go.Proofs.YthipjoioicmcnaaW.PrintLast Go.Proofs.YthipjoioicmcnaaW.PrintMore Go.Proofs.Ythipjoioicmcnaa.Sh
attribute [local go_sem] dP dR eA eB dB dC dQ dS
mutual
def bX.j0:Nat→Bool→Int→ByteArray→Option (Bool)
 | 0,_,_,_=>none
 | k + 1,x16,x102000,x102001=>if x16=true then (some false) else (bX.l0 k 0 x102000 x102001)
def bX.l0:Nat→Int→Int→ByteArray→Option (Bool)
 | 0,_,_,_=>none
 | k + 1,x3,x102000,x102001=>if x3 < (x102001.size:Int) then (if 0≤x3 then (if (bt x102001 x3)=48 then (bX.l0 k (wrap64 (x3 + 1)) x102000 x102001) else (if (bt x102001 x3)=49 then (bX.l0 k (wrap64 (x3 + 1)) x102000 x102001) else (some false))) else (none)) else (some true)
end
def bX.f (k:Nat) (A2:Int) (A0:ByteArray):Option (Bool):=(bB.f A2 0 12).bind fun A9=>(if A9=true then ((aH.f k A2).bind fun A7=>(bX.j0 k ((A0.size:Int) != A7) A2 A0)) else (bX.j0 k true A2 A0))
theorem bX.calls (k:Nat) (A2:Int) (A0:ByteArray) (r:Bool) (w:World) (h:bX.f k A2 A0=some r) :
  Calls Try.prog 23 #[.agg #[.int .i64 A2,.string A0]] w fun e w'=>e = .returned (.bool r)∧Below w.heap.size w w':=by
 have hu26:=Try.underlying26;have HB:=aA.mk (Below.refl w.heap.size w);have H:((bB.f A2 0 12).bind fun A9=>(if A9=true then ((aH.f k A2).bind fun A7=>(bX.j0 k ((A0.size:Int) != A7) A2 A0)) else (bX.j0 k true A2 A0)))=some r:=h;clear h;have HC2:=aA.mk H;clear H
 go_enter Try.func23,Try.ntmps23
 go_upto_region 1 with (first|((with_reducible refine bF (N:=1) rfl ?_);(try (refine eY (by rfl) ?_;dsimp only));refine bx (N:=1) (cs:=#[.int .i64 A2,.string A0]) (t:=26) ?_;intro A5 hg w3 hbox hb;have A3:=aA.mk (hbox);have Aa:=aA.mk ((by rw [hg];exact (aG (tb HB)):w.heap.size≤A5));have Ab:=aA.mk ((by rw [hg];exact (aG (tb HB)):w.heap.size≤A5));replace HB:=aA.mk (aE (tb HB) hb);clear hb hbox hg))
 repeat (go_quiet (first|((with_reducible refine bF (N:=1) rfl ?_);(try (refine eY (by rfl) ?_;dsimp only));refine bx (N:=1) (cs:=#[.int .i64 A2,.string A0]) (t:=26) ?_;intro A5 hg w3 hbox hb;have A3:=aA.mk (hbox);have Aa:=aA.mk ((by rw [hg];exact (aG (tb HB)):w.heap.size≤A5));have Ab:=aA.mk ((by rw [hg];exact (aG (tb HB)):w.heap.size≤A5));replace HB:=aA.mk (aE (tb HB) hb);clear hb hbox hg));go_upto_region 1 with (first|((with_reducible refine bF (N:=1) rfl ?_);(try (refine eY (by rfl) ?_;dsimp only));refine bx (N:=1) (cs:=#[.int .i64 A2,.string A0]) (t:=26) ?_;intro A5 hg w3 hbox hb;have A3:=aA.mk (hbox);have Aa:=aA.mk ((by rw [hg];exact (aG (tb HB)):w.heap.size≤A5));have Ab:=aA.mk ((by rw [hg];exact (aG (tb HB)):w.heap.size≤A5));replace HB:=aA.mk (aE (tb HB) hb);clear hb hbox hg)))
 (try simp only [Act.put,List.setIfInBounds_toArray,List.set_cons_zero,List.set_cons_succ])
 go_cut [16] (fun v16 wc=>∃ (kq:Nat) (A8:Bool),v16 = .bool A8∧aA (bX.j0 kq A8 A2 A0=some r)∧aA (kq≤k)∧aA (wc.heap[A5]? = some (.cells #[.int .i64 A2,.string A0] 26 (0,0)))∧aA (Below w.heap.size w wc))
 case first =>
  have H:=HC2.out;clear HC2;replace H:=ob H;obtain ⟨A9,A40,H⟩:=H
  try dsimp only at H
  have A4:=aA.mk A40;clear A40
  by_cases c5:A9=true
  ·subst c5
   have H1:((aH.f k A2).bind fun A7=>(bX.j0 k ((A0.size:Int) != A7) A2 A0))=some r:=by rw [if_pos rfl] at H;exact H
   clear H;have H:=H1;clear H1;replace H:=ob H;obtain ⟨A7,A60,H⟩:=H;replace H:(bX.j0 k ((A0.size:Int) != A7) A2 A0)=some r:=H;have A6:=aA.mk A60;clear A60;have H':=aA.mk H;clear H;have hcz7__:=gP A3;have hfz7__:=f_ A3;go_wp2_with (first|(go_at_call 69;(try simp only [aJ,aN]);(with_reducible refine (bB.calls A2 0 12 true _ A4.out).mono ?_);rintro e w' ⟨rfl,⟨nd,rfl⟩⟩;(try exact dd))|(go_at_call 70;(try simp only [aJ,aN]);(with_reducible refine (aH.calls k A2 A7 _ A6.out).mono ?_);rintro e w' ⟨rfl,⟨nd,rfl⟩⟩;(try exact dd)))
   repeat (go_quiet (first|(go_at_call 69;(try simp only [aJ,aN]);(with_reducible refine (bB.calls A2 0 12 true _ A4.out).mono ?_);rintro e w' ⟨rfl,⟨nd,rfl⟩⟩;(try exact dd))|(go_at_call 70;(try simp only [aJ,aN]);(with_reducible refine (aH.calls k A2 A7 _ A6.out).mono ?_);rintro e w' ⟨rfl,⟨nd,rfl⟩⟩;(try exact dd)));try go_wp2_with (first|(go_at_call 69;(try simp only [aJ,aN]);(with_reducible refine (bB.calls A2 0 12 true _ A4.out).mono ?_);rintro e w' ⟨rfl,⟨nd,rfl⟩⟩;(try exact dd))|(go_at_call 70;(try simp only [aJ,aN]);(with_reducible refine (aH.calls k A2 A7 _ A6.out).mono ?_);rintro e w' ⟨rfl,⟨nd,rfl⟩⟩;(try exact dd))))
   go_meet
   case rel=>exact ⟨_,(((A0.size:Int) != A7)),(by first|rfl|(simp;done)|(simp [*];done)),H',⟨by first|omega|exact Nat.le_refl _⟩,⟨dr A3⟩,⟨by exact tb HB⟩⟩
  ·replace c5:=Bool.eq_false_iff.mpr c5;subst c5
   have H1:(bX.j0 k true A2 A0)=some r:=by rw [if_neg (show ¬ (false=true) by decide)] at H;exact H
   clear H;have H:=H1;clear H1;have H':=aA.mk H;clear H;have hcz8__:=gP A3;have hfz8__:=f_ A3;go_wp2_with (first|(go_at_call 69;(try simp only [aJ,aN]);(with_reducible refine (bB.calls A2 0 12 false _ A4.out).mono ?_);rintro e w' ⟨rfl,⟨nd,rfl⟩⟩;(try exact dd)))
   repeat (go_quiet (first|(go_at_call 69;(try simp only [aJ,aN]);(with_reducible refine (bB.calls A2 0 12 false _ A4.out).mono ?_);rintro e w' ⟨rfl,⟨nd,rfl⟩⟩;(try exact dd)));try go_wp2_with (first|(go_at_call 69;(try simp only [aJ,aN]);(with_reducible refine (bB.calls A2 0 12 false _ A4.out).mono ?_);rintro e w' ⟨rfl,⟨nd,rfl⟩⟩;(try exact dd))))
   go_meet
   case rel=>exact ⟨_,(true),(by first|rfl|(simp;done)|(simp [*];done)),H',⟨by first|omega|exact Nat.le_refl _⟩,⟨dr A3⟩,⟨by exact tb HB⟩⟩
 case rest =>
  clear HC2;obtain ⟨kq,A8,rfl,HA,HJ1,A3,HB⟩:=hcut
  cases kq with
  | zero=>exact absurd HA.out (by simp [bX.j0])
  | succ kj1 =>
   have H:=HA.out;clear HA;simp only [bX.j0] at H
   by_cases c9:A8=true
   ·subst c9
    have H1:(some false)=some r:=by rw [if_pos rfl] at H;exact H
    clear H;have H:=H1;clear H1;obtain rfl:=os H;go_wp2
    repeat (go_quiet (fail);try go_wp2)
    go_ret;exact ⟨er,tb HB⟩
   ·replace c9:=Bool.eq_false_iff.mpr c9;subst c9
    have H1:(bX.l0 kj1 0 A2 A0)=some r:=by rw [if_neg (show ¬ (false=true) by decide)] at H;exact H
    clear H;have H:=H1;clear H1;have H':=aA.mk H;clear H;go_wp2
    repeat (go_quiet (fail);try go_wp2)
    go_loopg [3] kj1 (fun kq v3 w'=>∃ (A1:Int),v3 = .int .i64 A1∧aA (bX.l0 kq A1 A2 A0=some r)∧aA (kq≤kj1)∧aA (w'.heap[A5]? = some (.cells #[.int .i64 A2,.string A0] 26 (0,0)))∧aA (Below w.heap.size w w'))
    case atStart=>exact ⟨(0),(by first|rfl|(simp;done)|(simp [*];done)),H',⟨Nat.le_refl _⟩,⟨dr A3⟩,⟨by exact tb HB⟩⟩
    case round =>
     clear H';obtain ⟨A1,rfl,HA,HK2,A3,HB⟩:=hrel
     cases gk with
     | zero=>exact absurd HA.out (by simp [bX.l0])
     | succ k2 =>
      have H:=HA.out;clear HA;simp only [bX.l0] at H
      by_cases c10:A1 < (A0.size:Int)
      ·rw [if_pos c10] at H;have c10b0:decide (A1 < (A0.size:Int))=true:=decide_eq_true c10;clear c10
       by_cases c11:0≤A1
       ·rw [if_pos c11] at H;have c11b0:decide (0≤A1)=true:=decide_eq_true c11;clear c11
        by_cases c13:(bt A0 A1)=48
        ·rw [if_pos c13] at H;have c13b0:((bt A0 A1) == 48)=true:=beq_iff_eq.mpr c13;have c13b1:((bt A0 A1) != 48)=false:=bne_eq_false_iff_eq.mpr c13;clear c13;have H':=aA.mk H;clear H;have hcz14__:=gP A3;have hfz14__:=f_ A3;have p12:0≤(A1:Int):=od;have q12:A1 < (A0.size:Int):=od;have hx12:=lA A0 A1;replace p12:=eq_true p12;replace q12:=eq_true q12;go_wp2
         repeat (go_quiet (fail);try go_wp2)
         go_roundg k2
         case measure=>have:=HJ1.out;have:=HK2.out;omega
         case rel=>exact ⟨(wrap64 (A1 + 1)),(by first|rfl|(simp;done)|(simp [*];done)),H',⟨by have:=HJ1.out;have:=HK2.out;omega⟩,⟨dr A3⟩,⟨by exact tb HB⟩⟩
        ·rw [if_neg c13] at H;have c13b0:((bt A0 A1) == 48)=false:=beq_eq_false_iff_ne.mpr c13;have c13b1:((bt A0 A1) != 48)=true:=bne_iff_ne.mpr c13
         by_cases c16:(bt A0 A1)=49
         ·rw [if_pos c16] at H;have c16b0:((bt A0 A1) == 49)=true:=beq_iff_eq.mpr c16;have c16b1:((bt A0 A1) != 49)=false:=bne_eq_false_iff_eq.mpr c16;clear c16;have H':=aA.mk H;clear H;have hcz17__:=gP A3;have hfz17__:=f_ A3;have p12:0≤(A1:Int):=od;have q12:A1 < (A0.size:Int):=od;have hx12:=lA A0 A1;replace p12:=eq_true p12;replace q12:=eq_true q12;have p15:0≤(A1:Int):=od;have q15:A1 < (A0.size:Int):=od;have hx15:=lA A0 A1;replace p15:=eq_true p15;replace q15:=eq_true q15;go_wp2
          repeat (go_quiet (fail);try go_wp2)
          go_roundg k2
          case measure=>have:=HJ1.out;have:=HK2.out;omega
          case rel=>exact ⟨(wrap64 (A1 + 1)),(by first|rfl|(simp;done)|(simp [*];done)),H',⟨by have:=HJ1.out;have:=HK2.out;omega⟩,⟨dr A3⟩,⟨by exact tb HB⟩⟩
         ·rw [if_neg c16] at H;have c16b0:((bt A0 A1) == 49)=false:=beq_eq_false_iff_ne.mpr c16;have c16b1:((bt A0 A1) != 49)=true:=bne_iff_ne.mpr c16;obtain rfl:=os H;have hcz18__:=gP A3;have hfz18__:=f_ A3;have p12:0≤(A1:Int):=od;have q12:A1 < (A0.size:Int):=od;have hx12:=lA A0 A1;replace p12:=eq_true p12;replace q12:=eq_true q12;have p15:0≤(A1:Int):=od;have q15:A1 < (A0.size:Int):=od;have hx15:=lA A0 A1;replace p15:=eq_true p15;replace q15:=eq_true q15;go_wp2
          repeat (go_quiet (fail);try go_wp2)
          go_ret;exact ⟨er,tb HB⟩
       ·rw [if_neg c11] at H;exact absurd H (by simp)
      ·rw [if_neg c10] at H;have c10b0:decide (A1 < (A0.size:Int))=false:=decide_eq_false c10;clear c10;obtain rfl:=os H;have hcz19__:=gP A3;have hfz19__:=f_ A3;go_wp2
       repeat (go_quiet (fail);try go_wp2)
       go_ret;exact ⟨er,tb HB⟩
def dY.f (s0_0:List Int) (s0_1:Int) (s0_2:Int):Option (Int × Int × Int):=if s0_1 < (s0_0.length:Int) then (if 0≤s0_1 then (some (Go.bits .and .i64 (wrap64 ((Go.bits .and .i64 (Go.bits .xor .i64 ((wrap64 ((wrap64 (s0_2 * 6364136223846793005)) + 1442695040888963407)) / 8589934592) ((wrap64 ((wrap64 (s0_2 * 6364136223846793005)) + 1442695040888963407)) / 35184372088832)) 255) + (wrap64 (rd s0_0 s0_1)))) 255,wrap64 (s0_1 + 1),wrap64 ((wrap64 (s0_2 * 6364136223846793005)) + 1442695040888963407))) else (none)) else (some (Go.bits .and .i64 (Go.bits .xor .i64 ((wrap64 ((wrap64 (s0_2 * 6364136223846793005)) + 1442695040888963407)) / 8589934592) ((wrap64 ((wrap64 (s0_2 * 6364136223846793005)) + 1442695040888963407)) / 35184372088832)) 255,s0_1,wrap64 ((wrap64 (s0_2 * 6364136223846793005)) + 1442695040888963407)))
theorem dY.calls (g:Nat) (s0_0:List Int) (s0_1:Int) (s0_2:Int) (r1:Int) (r2:Int) (r3:Int) (w0 w:World) (hI:bK w0 w g s0_0 s0_1 s0_2) (hB:Below w0.heap.size w0 w) (h:dY.f s0_0 s0_1 s0_2=some (r1,r2,r3)) :
  Calls Try.prog 109 #[.pointer (some ⟨g,0,none⟩)] w fun e w'=>e = .returned (.int .i64 r1)∧bK w0 w' g s0_0 r2 r3∧Below w0.heap.size w0 w'∧bI w w' g none:=by
 have HI0:=aA.mk hI;have HK:=aA.mk (bI.refl w g none);have HL:=aA.mk hB.size;clear hI;have HW0:=aA.mk hB.size;have HB:=aA.mk hB;clear hB;have H:(if s0_1 < (s0_0.length:Int) then (if 0≤s0_1 then (some (Go.bits .and .i64 (wrap64 ((Go.bits .and .i64 (Go.bits .xor .i64 ((wrap64 ((wrap64 (s0_2 * 6364136223846793005)) + 1442695040888963407)) / 8589934592) ((wrap64 ((wrap64 (s0_2 * 6364136223846793005)) + 1442695040888963407)) / 35184372088832)) 255) + (wrap64 (rd s0_0 s0_1)))) 255,wrap64 (s0_1 + 1),wrap64 ((wrap64 (s0_2 * 6364136223846793005)) + 1442695040888963407))) else (none)) else (some (Go.bits .and .i64 (Go.bits .xor .i64 ((wrap64 ((wrap64 (s0_2 * 6364136223846793005)) + 1442695040888963407)) / 8589934592) ((wrap64 ((wrap64 (s0_2 * 6364136223846793005)) + 1442695040888963407)) / 35184372088832)) 255,s0_1,wrap64 ((wrap64 (s0_2 * 6364136223846793005)) + 1442695040888963407))))=some (r1,r2,r3):=h;clear h
 by_cases c2:s0_1 < (s0_0.length:Int)
 ·rw [if_pos c2] at H;have c2b0:decide (s0_1 < (s0_0.length:Int))=true:=decide_eq_true c2;clear c2
  by_cases c3:0≤s0_1
  ·rw [if_pos c3] at H;have c3b0:decide (0≤s0_1)=true:=decide_eq_true c3;clear c3;simp only [Option.some.injEq,Prod.mk.injEq] at H;obtain ⟨rfl,rfl,rfl⟩:=H;obtain ⟨ASz4_0,cSz4_0,HGz4,hgz4,HSz4_0⟩:=HI0.out;have hcz4_0:=oE HGz4;have hcz4_1:=oF HGz4;have hcz4_2:=oG HGz4;have hfz4_1:=dU HGz4 1;have hfz4_2:=dU HGz4 2;clear HGz4 hgz4;have p101:0≤(s0_1:Int):=od;have q101:s0_1 < (s0_0.length:Int):=od;obtain ⟨ad101,e101,hx101_0⟩:=Kd.at_int HSz4_0 s0_1 p101 q101;cases e101;have hn101_0:ad101.block≠g:=Nat.ne_of_lt (Nat.lt_of_lt_of_le (by have:=World.block_lt_of_cell? _ _ hx101_0;first|rwa [add_block] at this|exact this) (bK.ge HI0.out));replace hx101_0:=iW HB.out hx101_0;replace hx101_0:=(cell_far (p:=⟨g,2,none⟩) (by first|(rw [add_block];exact hn101_0)|(show (Addr.add _ _).block≠_;rw [add_block];exact hn101_0)|exact hn101_0) (.int .i64 (wrap64 ((wrap64 (s0_2 * 6364136223846793005)) + 1442695040888963407)))).trans hx101_0
   (try have hy101_0:=fun (n_:Nat)=>(show (((w.drewN n_).setCell ⟨g,2,none⟩ (.int .i64 (wrap64 ((wrap64 (s0_2 * 6364136223846793005)) + 1442695040888963407))))).cell? _=some _ from hx101_0))
   clear hn101_0;replace p101:=eq_true p101;replace q101:=eq_true q101
   go_enter Try.func109,Try.ntmps109
   go_wp2
   repeat (go_quiet (fail);try go_wp2)
   go_ret;exact ⟨er,dJ HI0,dX HB HI0,tp HK⟩
  ·rw [if_neg c3] at H;exact absurd H (by simp)
 ·rw [if_neg c2] at H;have c2b0:decide (s0_1 < (s0_0.length:Int))=false:=decide_eq_false c2;clear c2;simp only [Option.some.injEq,Prod.mk.injEq] at H;obtain ⟨rfl,rfl,rfl⟩:=H;obtain ⟨ASz5_0,cSz5_0,HGz5,hgz5,HSz5_0⟩:=HI0.out;have hcz5_0:=oE HGz5;have hcz5_1:=oF HGz5;have hcz5_2:=oG HGz5;have hfz5_1:=dU HGz5 1;have hfz5_2:=dU HGz5 2;clear HGz5 hgz5
  go_enter Try.func109,Try.ntmps109
  go_wp2
  repeat (go_quiet (fail);try go_wp2)
  go_ret;exact ⟨er,dJ HI0,dX HB HI0,tp HK⟩
def iX.f (a0:Int):Option (Bool):=if a0=2 then (some true) else (if a0=3 then (some true) else (if a0=4 then (some true) else ((bP.f a0).bind fun A0=>(some A0))))
theorem iX.calls (a0:Int) (r:Bool) (w:World) (h:iX.f a0=some r) :
  Calls Try.prog 129 #[.int .i64 a0] w fun e w'=>e = .returned (.bool r)∧bW w w':=by
 have H:(if a0=2 then (some true) else (if a0=3 then (some true) else (if a0=4 then (some true) else ((bP.f a0).bind fun A0=>(some A0)))))=some r:=h;clear h
 by_cases c2:a0=2
 ·rw [if_pos c2] at H;have c2b0:(a0 == 2)=true:=beq_iff_eq.mpr c2;have c2b1:(a0 != 2)=false:=bne_eq_false_iff_eq.mpr c2;clear c2;obtain rfl:=os H
  go_enter Try.func129,Try.ntmps129
  go_wp2;go_ret;exact ⟨e1,dn⟩
 ·rw [if_neg c2] at H;have c2b0:(a0 == 2)=false:=beq_eq_false_iff_ne.mpr c2;have c2b1:(a0 != 2)=true:=bne_iff_ne.mpr c2
  by_cases c3:a0=3
  ·rw [if_pos c3] at H;have c3b0:(a0 == 3)=true:=beq_iff_eq.mpr c3;have c3b1:(a0 != 3)=false:=bne_eq_false_iff_eq.mpr c3;clear c3;obtain rfl:=os H
   go_enter Try.func129,Try.ntmps129
   go_wp2;go_ret;exact ⟨e1,dn⟩
  ·rw [if_neg c3] at H;have c3b0:(a0 == 3)=false:=beq_eq_false_iff_ne.mpr c3;have c3b1:(a0 != 3)=true:=bne_iff_ne.mpr c3
   by_cases c4:a0=4
   ·rw [if_pos c4] at H;have c4b0:(a0 == 4)=true:=beq_iff_eq.mpr c4;have c4b1:(a0 != 4)=false:=bne_eq_false_iff_eq.mpr c4;clear c4;obtain rfl:=os H
    go_enter Try.func129,Try.ntmps129
    go_wp2;go_ret;exact ⟨e1,dn⟩
   ·rw [if_neg c4] at H;have c4b0:(a0 == 4)=false:=beq_eq_false_iff_ne.mpr c4;have c4b1:(a0 != 4)=true:=bne_iff_ne.mpr c4;replace H:=ob H;obtain ⟨A0,A50,H⟩:=H;replace H:(some A0)=some r:=H;have A5:=aA.mk A50;clear A50;obtain rfl:=os H
    go_enter Try.func129,Try.ntmps129
    go_wp2_with (first|(go_at_call 103;(try simp only [aJ,aN]);(with_reducible refine (bP.calls a0 A0 _ A5.out).mono ?_);rintro e w' ⟨rfl,⟨nd,rfl⟩⟩));go_ret;exact ⟨e1,dn⟩
end Go.Proofs.Ythipjoioicmcnaa.G
