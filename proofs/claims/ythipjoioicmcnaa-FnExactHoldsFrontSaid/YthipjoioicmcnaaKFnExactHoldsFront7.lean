-- texts of this session, merged by a program of it (wip/gen/pack.py)
import Derived.Test.YthipjoioicmcnaaKFnExactHoldsFront1
import Derived.Test.YthipjoioicmcnaaKFnExactHoldsFront2
import Derived.Test.YthipjoioicmcnaaKFnExactHoldsFront6
namespace Go.Proofs.Ythipjoioicmcnaa.G
open Go.Proofs.Ythipjoioicmcnaa.Sh
open Go.RowKit Go.Proofs.YthipjoioicmcnaaW.PrintWords Go.Proofs.YthipjoioicmcnaaW.PrintLast Go.Proofs.YthipjoioicmcnaaW.PrintMore
attribute [local go_sem] max2_int min2_int max_two min_two max_three min_three max_four min_four
set_option linter.unusedVariables false
set_option linter.unusedSimpArgs false
def laws_eqQuantS.l0:Nat→List (S66)→List (S66)→Int→Option (Bool)
 | 0,_,_,_=>none
 | k + 1,x0,x1,x5=>if x5 < (x0.length:Int) then (if 0≤x5 then (if x5 < (x1.length:Int) then ((laws_eqQuant.f ((rd_T66 x0 x5).f0) ((rd_T66 x0 x5).f1) ((rd_T66 x0 x5).f2) ((rd_T66 x1 x5).f0) ((rd_T66 x1 x5).f1) ((rd_T66 x1 x5).f2)).bind fun A3=>(if A3=true then (laws_eqQuantS.l0 k x0 x1 (wrap64 (x5 + 1))) else (some false))) else (none)) else (none)) else (some true)
def laws_eqQuantS.f (k:Nat) (l0:List (S66)) (l1:List (S66)):Option (Bool):=if (l0.length:Int)=(l1.length:Int) then (laws_eqQuantS.l0 k l0 l1 0) else (some false)
def laws_eqQuantS.T6:Bool × List (List Nat × List Nat):=(true,[([],[]),([],[]),([0,1],[0,1]),([2],[2]),([],[]),([],[]),([4,5],[4,5]),([6],[6]),([3,7],[3,7]),([8],[8])])
def laws_eqQuantS.B6:List Nat:=[0,0,3,7,0,0,48,112,255,511]
theorem laws_eqQuantS.tab6:rtab .any (opsOf Try.f39 6)=laws_eqQuantS.T6:=by kernel_rfl
theorem laws_eqQuantS.bits6:waitsOk laws_eqQuantS.T6.2 laws_eqQuantS.B6=true:=by kernel_rfl
set_option maxHeartbeats 8000000 in
set_option maxRecDepth 100000 in
theorem laws_eqQuantS.calls (k:Nat) (A0:Option Addr) (c0:Nat) (l0:List (S66)) (A1:Option Addr) (c1:Nat) (l1:List (S66)) (r:Bool) (w:World) (hr0:Kd.C k66 w A0 l0.length l0) (hc0:l0.length≤c0) (hr1:Kd.C k66 w A1 l1.length l1) (hc1:l1.length≤c1) (h:laws_eqQuantS.f k l0 l1=some r) :
  Calls Try.prog 39 #[.slice A0 l0.length c0,.slice A1 l1.length c1] w fun e w'=>e = .returned (.bool r)∧Below w.heap.size w w':=by
 have hu66:=Try.underlying66;have HR0:=Aside0.mk hr0;have HC0:=Aside0.mk hc0;clear hr0 hc0;have HR1:=Aside0.mk hr1;have HC1:=Aside0.mk hc1;clear hr1 hc1;have HB:=Aside0.mk (Below.refl w.heap.size w);have H:(if (l0.length:Int)=(l1.length:Int) then (laws_eqQuantS.l0 k l0 l1 0) else (some false))=some r:=h;clear h
 by_cases c3:(l0.length:Int)=(l1.length:Int)
 ·rw [if_pos c3] at H;have c3b0:((l0.length:Int) == (l1.length:Int))=true:=beq_iff_eq.mpr c3;have c3b1:((l0.length:Int) != (l1.length:Int))=false:=bne_eq_false_iff_eq.mpr c3
  have c3b2:(l0.length == l1.length)=true:=by first|simpa using c3|(simp at c3 ⊢;omega)
  clear c3;have H':=Aside0.mk H;clear H
  go_enter Try.func39,Try.ntmps39
  go_wp2
  go_loopg [5] k (fun kq v5 w'=>∃ (A2:Int),v5 = .int .i64 A2∧Aside0 (laws_eqQuantS.l0 kq l0 l1 A2=some r)∧Aside0 (kq≤k)∧Aside0 (Below w.heap.size w w'))
  case atStart=>exact ⟨(0),(by first|rfl|(simp;done)|(simp [*];done)),H',⟨Nat.le_refl _⟩,⟨by exact tb HB⟩⟩
  case round =>
   clear H';(try clear c1);(try clear p2);(try clear c3);(try clear c3b0);(try clear c3b1);(try clear c3b2);obtain ⟨A2,rfl,HA,HK1,HB⟩:=hrel
   cases gk with
   | zero=>exact absurd HA.out (by simp [laws_eqQuantS.l0])
   | succ k1 =>
    have H:=HA.out;clear HA;simp only [laws_eqQuantS.l0] at H
    by_cases c4:A2 < (l0.length:Int)
    ·rw [if_pos c4] at H;have c4b0:decide (A2 < (l0.length:Int))=true:=decide_eq_true c4;clear c4
     by_cases c5:0≤A2
     ·rw [if_pos c5] at H;have c5b0:decide (0≤A2)=true:=decide_eq_true c5;clear c5
      by_cases c6:A2 < (l1.length:Int)
      ·rw [if_pos c6] at H;have c6b0:decide (A2 < (l1.length:Int))=true:=decide_eq_true c6;clear c6;replace H:=ob H;obtain ⟨A3,A70,H⟩:=H;replace H:(if A3=true then (laws_eqQuantS.l0 k1 l0 l1 (wrap64 (A2 + 1))) else (some false))=some r:=H;have A7:=Aside0.mk A70;clear A70
       by_cases c8:A3=true
       ·subst c8
        have H1:(laws_eqQuantS.l0 k1 l0 l1 (wrap64 (A2 + 1)))=some r:=by rw [if_pos rfl] at H;exact H
        clear H;have H:=H1;clear H1;have H':=Aside0.mk H;clear H
        try go_wp2
        have n0_:=Aside0.mk (below_drew1 HB.out);clear HB;have HB:=n0_;clear n0_;have p101:0≤(A2:Int):=od;have q101:A2 < (l0.length:Int):=od;obtain ⟨ad101,e101,hx101_0,hx101_1,hx101_2⟩:=at_T66 HR0.out A2 p101 q101;have hw101_2:=hx101_2;have hw101_1:=hx101_1;have hw101_0:=hx101_0;cases e101;replace hx101_0:=ct HB hx101_0;replace hx101_1:=ct HB hx101_1;replace hx101_2:=ct HB hx101_2;replace p101:=eq_true p101;replace q101:=eq_true q101;have p102:0≤(A2:Int):=od;have q102:A2 < (l1.length:Int):=od;obtain ⟨ad102,e102,hx102_0,hx102_1,hx102_2⟩:=at_T66 HR1.out A2 p102 q102;have hw102_2:=hx102_2;have hw102_1:=hx102_1;have hw102_0:=hx102_0;cases e102;replace hx102_0:=ct HB hx102_0;replace hx102_1:=ct HB hx102_1;replace hx102_2:=ct HB hx102_2;replace p102:=eq_true p102;replace q102:=eq_true q102;refine start_ (n:=10) (S:=fun w'=>w'.cell? (ad101.add ((A2).toNat * 3))=some (.bool ((rd_T66 l0 A2).f0))∧w'.cell? ⟨(ad101.add ((A2).toNat * 3)).block,(ad101.add ((A2).toNat * 3)).off + 1,none⟩=some (.int .i64 ((rd_T66 l0 A2).f1))∧w'.cell? ⟨(ad101.add ((A2).toNat * 3)).block,(ad101.add ((A2).toNat * 3)).off + 2,none⟩=some (.int .i64 ((rd_T66 l0 A2).f2))∧w'.cell? (ad102.add ((A2).toNat * 3))=some (.bool ((rd_T66 l1 A2).f0))∧w'.cell? ⟨(ad102.add ((A2).toNat * 3)).block,(ad102.add ((A2).toNat * 3)).off + 1,none⟩=some (.int .i64 ((rd_T66 l1 A2).f1))∧w'.cell? ⟨(ad102.add ((A2).toNat * 3)).block,(ad102.add ((A2).toNat * 3)).off + 2,none⟩=some (.int .i64 ((rd_T66 l1 A2).f2))) (ds:=[]) (tf 0 10) (by kernel_rfl) rfl rfl ⟨(ct HB hw101_0 :),(ct HB hw101_1 :),(ct HB hw101_2 :),(ct HB hw102_0 :),(ct HB hw102_1 :),(ct HB hw102_2 :)⟩ (fun hHeld=>?_);refine with_tabW laws_eqQuantS.tab6 laws_eqQuantS.bits6 (fun HT_ HW_=>?_);generalize wr.drew=w9 at HB hx101_0 hx101_1 hx101_2 hx102_0 hx102_1 hx102_2 hHeld ⊢;refine pure_ (i:=0) (N:=some 17) (v:=?_) (a':=?_) (tf 1 9) rfl rfl (any_of HT_.out (by kernel_rfl)) (fun _ _ _ h=>h) (Or.inl ⟨by rfl,?_⟩) ?_ ?_;rotate_left
        ·intro w';go_simp;with_reducible rfl
        rotate_left
        ·simp only [Act.put,s1,s2,s3,i64_w,i32_w];rfl
        refine pure_ (i:=1) (N:=some 18) (v:=?_) (a':=?_) (tf 2 8) rfl rfl (any_of HT_.out (by kernel_rfl)) (fun _ _ _ h=>h) (Or.inl ⟨by rfl,?_⟩) ?_ ?_;rotate_left
        ·intro w';go_simp;with_reducible rfl
        rotate_left
        ·simp only [Act.put,s1,s2,s3,i64_w,i32_w];rfl
        refine pure_ (i:=2) (N:=some 19) (v:=?_) (a':=?_) (tf 3 7) rfl rfl (any_of HT_.out (by kernel_rfl)) (fun _ _ _ h=>h) (Or.inl ⟨by rfl,?_⟩) ?_ ?_;rotate_left
        ·intro w';go_simp;with_reducible rfl
        rotate_left
        ·simp only [Act.put,s1,s2,s3,i64_w,i32_w];rfl
        refine pure_ (i:=4) (N:=some 21) (v:=?_) (a':=?_) #[true,true,true,false,true,false,false,false,false,false] rfl rfl (any_of HT_.out (by kernel_rfl)) (fun _ _ _ h=>h) (Or.inl ⟨by rfl,?_⟩) ?_ ?_;rotate_left
        ·intro w';go_simp;with_reducible rfl
        rotate_left
        ·simp only [Act.put,s1,s2,s3,i64_w,i32_w];rfl
        refine pure_ (i:=5) (N:=some 22) (v:=?_) (a':=?_) #[true,true,true,false,true,true,false,false,false,false] rfl rfl (any_of HT_.out (by kernel_rfl)) (fun _ _ _ h=>h) (Or.inl ⟨by rfl,?_⟩) ?_ ?_;rotate_left
        ·intro w';go_simp;with_reducible rfl
        rotate_left
        ·simp only [Act.put,s1,s2,s3,i64_w,i32_w];rfl
        refine pure_ (i:=6) (N:=some 23) (v:=?_) (a':=?_) #[true,true,true,false,true,true,true,false,false,false] rfl rfl (any_of HT_.out (by kernel_rfl)) (fun _ _ _ h=>h) (Or.inl ⟨by rfl,?_⟩) ?_ ?_;rotate_left
        ·intro w';go_simp;with_reducible rfl
        rotate_left
        ·simp only [Act.put,s1,s2,s3,i64_w,i32_w];rfl
        refine take_ (i:=3) (N:=some 20) (v:=?_) (a':=?_) (tf 7 3) rfl rfl (take_ofW HT_.out HW_.out (by kernel_rfl)) (fun _ _ _ h=>h) (Or.inl ⟨by rfl,?_⟩) hHeld ?_ ?_;rotate_left
        ·rintro w' ⟨s0,s1,s2,s3,s4,s5⟩;go_simp;with_reducible rfl
        rotate_left
        ·simp only [Act.put,s1,s2,s3,i64_w,i32_w];rfl
        refine take_ (i:=7) (N:=some 24) (v:=?_) (a':=?_) (tf 8 2) rfl rfl (take_ofW HT_.out HW_.out (by kernel_rfl)) (fun _ _ _ h=>h) (Or.inl ⟨by rfl,?_⟩) hHeld ?_ ?_;rotate_left
        ·rintro w' ⟨s0,s1,s2,s3,s4,s5⟩;go_simp;with_reducible rfl
        rotate_left
        ·simp only [Act.put,s1,s2,s3,i64_w,i32_w];rfl
        refine one_ (i:=8) (N:=some 25) (tf 9 1) rfl rfl (one_of HT_.out (by kernel_rfl)) (by decide) (fun K hK=>?_);refine goes_ Try.func91 (by kernel_rfl) rfl #[.agg #[.bool ((rd_T66 l0 A2).f0),.int .i64 ((rd_T66 l0 A2).f1),.int .i64 ((rd_T66 l0 A2).f2)],.agg #[.bool ((rd_T66 l1 A2).f0),.int .i64 ((rd_T66 l1 A2).f1),.int .i64 ((rd_T66 l1 A2).f2)]] (by rfl) rfl rfl ml ?_
        with_reducible refine (laws_eqQuant.calls ((rd_T66 l0 A2).f0) ((rd_T66 l0 A2).f1) ((rd_T66 l0 A2).f2) ((rd_T66 l1 A2).f0) ((rd_T66 l1 A2).f1) ((rd_T66 l1 A2).f2) true _ A7.out).mono ?_
        rintro e w10 ⟨rfl,hb⟩;refine ⟨_,rfl,?_⟩;have n0_:=Aside0.mk (below_step (tb HB) hb);clear HB;have HB:=n0_;clear n0_;(try clear hb);(try clear hb2);(try clear hk);(try clear hi);refine hK.out _ _ ⟨(ct HB hw101_0 :),(ct HB hw101_1 :),(ct HB hw101_2 :),(ct HB hw102_0 :),(ct HB hw102_1 :),(ct HB hw102_2 :)⟩ (fun hHeld=>?_);clear hK K;refine norm_ (a':=?_) ?_ ?_;rotate_left
        ·show Act.put _ (some 25) _=_
         simp only [Act.put,s1,s2,s3,i64_w,i32_w];rfl
        refine pure_ (i:=9) (N:=some 26) (v:=?_) (a':=?_) (tf 10 0) rfl rfl (any_of HT_.out (by kernel_rfl)) (fun _ _ _ h=>h) (Or.inl ⟨by rfl,?_⟩) ?_ ?_;rotate_left
        ·intro w';go_simp;with_reducible rfl
        rotate_left
        ·simp only [Act.put,s1,s2,s3,i64_w,i32_w];rfl
        refine done_ (done_of HT_.out (by kernel_rfl)) ?_
        try go_wp2
        go_roundg k1
        case measure=>have:=HK1.out;omega
        case rel=>exact ⟨(wrap64 (A2 + 1)),(by first|rfl|(simp;done)|(simp [*];done)),H',⟨by have:=HK1.out;omega⟩,⟨by exact tb HB⟩⟩
       ·replace c8:=Bool.eq_false_iff.mpr c8;subst c8
        have H1:(some false)=some r:=by rw [if_neg (show ¬ (false=true) by decide)] at H;exact H
        clear H;have H:=H1;clear H1;obtain rfl:=os H
        try go_wp2
        have n0_:=Aside0.mk (below_drew1 HB.out);clear HB;have HB:=n0_;clear n0_;have p101:0≤(A2:Int):=od;have q101:A2 < (l0.length:Int):=od;obtain ⟨ad101,e101,hx101_0,hx101_1,hx101_2⟩:=at_T66 HR0.out A2 p101 q101;have hw101_2:=hx101_2;have hw101_1:=hx101_1;have hw101_0:=hx101_0;cases e101;replace hx101_0:=ct HB hx101_0;replace hx101_1:=ct HB hx101_1;replace hx101_2:=ct HB hx101_2;replace p101:=eq_true p101;replace q101:=eq_true q101;have p102:0≤(A2:Int):=od;have q102:A2 < (l1.length:Int):=od;obtain ⟨ad102,e102,hx102_0,hx102_1,hx102_2⟩:=at_T66 HR1.out A2 p102 q102;have hw102_2:=hx102_2;have hw102_1:=hx102_1;have hw102_0:=hx102_0;cases e102;replace hx102_0:=ct HB hx102_0;replace hx102_1:=ct HB hx102_1;replace hx102_2:=ct HB hx102_2;replace p102:=eq_true p102;replace q102:=eq_true q102;refine start_ (n:=10) (S:=fun w'=>w'.cell? (ad101.add ((A2).toNat * 3))=some (.bool ((rd_T66 l0 A2).f0))∧w'.cell? ⟨(ad101.add ((A2).toNat * 3)).block,(ad101.add ((A2).toNat * 3)).off + 1,none⟩=some (.int .i64 ((rd_T66 l0 A2).f1))∧w'.cell? ⟨(ad101.add ((A2).toNat * 3)).block,(ad101.add ((A2).toNat * 3)).off + 2,none⟩=some (.int .i64 ((rd_T66 l0 A2).f2))∧w'.cell? (ad102.add ((A2).toNat * 3))=some (.bool ((rd_T66 l1 A2).f0))∧w'.cell? ⟨(ad102.add ((A2).toNat * 3)).block,(ad102.add ((A2).toNat * 3)).off + 1,none⟩=some (.int .i64 ((rd_T66 l1 A2).f1))∧w'.cell? ⟨(ad102.add ((A2).toNat * 3)).block,(ad102.add ((A2).toNat * 3)).off + 2,none⟩=some (.int .i64 ((rd_T66 l1 A2).f2))) (ds:=[]) (tf 0 10) (by kernel_rfl) rfl rfl ⟨(ct HB hw101_0 :),(ct HB hw101_1 :),(ct HB hw101_2 :),(ct HB hw102_0 :),(ct HB hw102_1 :),(ct HB hw102_2 :)⟩ (fun hHeld=>?_);refine with_tabW laws_eqQuantS.tab6 laws_eqQuantS.bits6 (fun HT_ HW_=>?_);generalize wr.drew=w11 at HB hx101_0 hx101_1 hx101_2 hx102_0 hx102_1 hx102_2 hHeld ⊢;refine pure_ (i:=0) (N:=some 17) (v:=?_) (a':=?_) (tf 1 9) rfl rfl (any_of HT_.out (by kernel_rfl)) (fun _ _ _ h=>h) (Or.inl ⟨by rfl,?_⟩) ?_ ?_;rotate_left
        ·intro w';go_simp;with_reducible rfl
        rotate_left
        ·simp only [Act.put,s1,s2,s3,i64_w,i32_w];rfl
        refine pure_ (i:=1) (N:=some 18) (v:=?_) (a':=?_) (tf 2 8) rfl rfl (any_of HT_.out (by kernel_rfl)) (fun _ _ _ h=>h) (Or.inl ⟨by rfl,?_⟩) ?_ ?_;rotate_left
        ·intro w';go_simp;with_reducible rfl
        rotate_left
        ·simp only [Act.put,s1,s2,s3,i64_w,i32_w];rfl
        refine pure_ (i:=2) (N:=some 19) (v:=?_) (a':=?_) (tf 3 7) rfl rfl (any_of HT_.out (by kernel_rfl)) (fun _ _ _ h=>h) (Or.inl ⟨by rfl,?_⟩) ?_ ?_;rotate_left
        ·intro w';go_simp;with_reducible rfl
        rotate_left
        ·simp only [Act.put,s1,s2,s3,i64_w,i32_w];rfl
        refine pure_ (i:=4) (N:=some 21) (v:=?_) (a':=?_) #[true,true,true,false,true,false,false,false,false,false] rfl rfl (any_of HT_.out (by kernel_rfl)) (fun _ _ _ h=>h) (Or.inl ⟨by rfl,?_⟩) ?_ ?_;rotate_left
        ·intro w';go_simp;with_reducible rfl
        rotate_left
        ·simp only [Act.put,s1,s2,s3,i64_w,i32_w];rfl
        refine pure_ (i:=5) (N:=some 22) (v:=?_) (a':=?_) #[true,true,true,false,true,true,false,false,false,false] rfl rfl (any_of HT_.out (by kernel_rfl)) (fun _ _ _ h=>h) (Or.inl ⟨by rfl,?_⟩) ?_ ?_;rotate_left
        ·intro w';go_simp;with_reducible rfl
        rotate_left
        ·simp only [Act.put,s1,s2,s3,i64_w,i32_w];rfl
        refine pure_ (i:=6) (N:=some 23) (v:=?_) (a':=?_) #[true,true,true,false,true,true,true,false,false,false] rfl rfl (any_of HT_.out (by kernel_rfl)) (fun _ _ _ h=>h) (Or.inl ⟨by rfl,?_⟩) ?_ ?_;rotate_left
        ·intro w';go_simp;with_reducible rfl
        rotate_left
        ·simp only [Act.put,s1,s2,s3,i64_w,i32_w];rfl
        refine take_ (i:=3) (N:=some 20) (v:=?_) (a':=?_) (tf 7 3) rfl rfl (take_ofW HT_.out HW_.out (by kernel_rfl)) (fun _ _ _ h=>h) (Or.inl ⟨by rfl,?_⟩) hHeld ?_ ?_;rotate_left
        ·rintro w' ⟨s0,s1,s2,s3,s4,s5⟩;go_simp;with_reducible rfl
        rotate_left
        ·simp only [Act.put,s1,s2,s3,i64_w,i32_w];rfl
        refine take_ (i:=7) (N:=some 24) (v:=?_) (a':=?_) (tf 8 2) rfl rfl (take_ofW HT_.out HW_.out (by kernel_rfl)) (fun _ _ _ h=>h) (Or.inl ⟨by rfl,?_⟩) hHeld ?_ ?_;rotate_left
        ·rintro w' ⟨s0,s1,s2,s3,s4,s5⟩;go_simp;with_reducible rfl
        rotate_left
        ·simp only [Act.put,s1,s2,s3,i64_w,i32_w];rfl
        refine one_ (i:=8) (N:=some 25) (tf 9 1) rfl rfl (one_of HT_.out (by kernel_rfl)) (by decide) (fun K hK=>?_);refine goes_ Try.func91 (by kernel_rfl) rfl #[.agg #[.bool ((rd_T66 l0 A2).f0),.int .i64 ((rd_T66 l0 A2).f1),.int .i64 ((rd_T66 l0 A2).f2)],.agg #[.bool ((rd_T66 l1 A2).f0),.int .i64 ((rd_T66 l1 A2).f1),.int .i64 ((rd_T66 l1 A2).f2)]] (by rfl) rfl rfl ml ?_
        with_reducible refine (laws_eqQuant.calls ((rd_T66 l0 A2).f0) ((rd_T66 l0 A2).f1) ((rd_T66 l0 A2).f2) ((rd_T66 l1 A2).f0) ((rd_T66 l1 A2).f1) ((rd_T66 l1 A2).f2) false _ A7.out).mono ?_
        rintro e w12 ⟨rfl,hb⟩;refine ⟨_,rfl,?_⟩;have n0_:=Aside0.mk (below_step (tb HB) hb);clear HB;have HB:=n0_;clear n0_;(try clear hb);(try clear hb2);(try clear hk);(try clear hi);refine hK.out _ _ ⟨(ct HB hw101_0 :),(ct HB hw101_1 :),(ct HB hw101_2 :),(ct HB hw102_0 :),(ct HB hw102_1 :),(ct HB hw102_2 :)⟩ (fun hHeld=>?_);clear hK K;refine norm_ (a':=?_) ?_ ?_;rotate_left
        ·show Act.put _ (some 25) _=_
         simp only [Act.put,s1,s2,s3,i64_w,i32_w];rfl
        refine pure_ (i:=9) (N:=some 26) (v:=?_) (a':=?_) (tf 10 0) rfl rfl (any_of HT_.out (by kernel_rfl)) (fun _ _ _ h=>h) (Or.inl ⟨by rfl,?_⟩) ?_ ?_;rotate_left
        ·intro w';go_simp;with_reducible rfl
        rotate_left
        ·simp only [Act.put,s1,s2,s3,i64_w,i32_w];rfl
        refine done_ (done_of HT_.out (by kernel_rfl)) ?_
        try go_wp2
        go_ret;exact ⟨er,tb HB⟩
      ·rw [if_neg c6] at H;exact absurd H (by simp)
     ·rw [if_neg c5] at H;exact absurd H (by simp)
    ·rw [if_neg c4] at H;have c4b0:decide (A2 < (l0.length:Int))=false:=decide_eq_false c4;clear c4;obtain rfl:=os H;go_wp2;go_ret;exact ⟨er,tb HB⟩
 ·rw [if_neg c3] at H;have c3b0:((l0.length:Int) == (l1.length:Int))=false:=beq_eq_false_iff_ne.mpr c3;have c3b1:((l0.length:Int) != (l1.length:Int))=true:=bne_iff_ne.mpr c3
  have c3b2:(l0.length == l1.length)=false:=by first|simpa using c3|(simp at c3 ⊢;omega)
  obtain rfl:=os H
  go_enter Try.func39,Try.ntmps39
  go_wp2;go_ret;exact ⟨er,tb HB⟩
def laws_szNodeS.f (l0:List (S101)) (a1:Int):Option (Int):=if (wrap64 (a1 - (l0.length:Int))) < 0 then (some (-1)) else (some (wrap64 (a1 - (l0.length:Int))))
set_option maxHeartbeats 8000000 in
set_option maxRecDepth 100000 in
theorem laws_szNodeS.calls (A0:Option Addr) (c0:Nat) (l0:List (S101)) (a1:Int) (r:Int) (w:World) (hr0:Kd.C k101 w A0 l0.length l0) (hc0:l0.length≤c0) (h:laws_szNodeS.f l0 a1=some r) :
  Calls Try.prog 33 #[.slice A0 l0.length c0,.int .i64 a1] w fun e w'=>e = .returned (.int .i64 r)∧Drawn0 w w':=by
 have HR0:=Aside0.mk hr0;have HC0:=Aside0.mk hc0;clear hr0 hc0;have H:(if (wrap64 (a1 - (l0.length:Int))) < 0 then (some (-1)) else (some (wrap64 (a1 - (l0.length:Int)))))=some r:=h;clear h
 by_cases c3:(wrap64 (a1 - (l0.length:Int))) < 0
 ·rw [if_pos c3] at H;have c3b0:decide ((wrap64 (a1 - (l0.length:Int))) < 0)=true:=decide_eq_true c3;clear c3;obtain rfl:=os H
  go_enter Try.func33,Try.ntmps33
  go_wp2;go_ret;exact ⟨e1,dn⟩
 ·rw [if_neg c3] at H;have c3b0:decide ((wrap64 (a1 - (l0.length:Int))) < 0)=false:=decide_eq_false c3;clear c3;obtain rfl:=os H
  go_enter Try.func33,Try.ntmps33
  go_wp2;go_ret;exact ⟨e1,dn⟩
def laws_szQuantS.f (l0:List (S97)) (a1:Int):Option (Int):=if (wrap64 (a1 - (l0.length:Int))) < 0 then (some (-1)) else (some (wrap64 (a1 - (l0.length:Int))))
set_option maxHeartbeats 8000000 in
set_option maxRecDepth 100000 in
theorem laws_szQuantS.calls (A0:Option Addr) (c0:Nat) (l0:List (S97)) (a1:Int) (r:Int) (w:World) (hr0:Kd.C k97 w A0 l0.length l0) (hc0:l0.length≤c0) (h:laws_szQuantS.f l0 a1=some r) :
  Calls Try.prog 32 #[.slice A0 l0.length c0,.int .i64 a1] w fun e w'=>e = .returned (.int .i64 r)∧Drawn0 w w':=by
 have HR0:=Aside0.mk hr0;have HC0:=Aside0.mk hc0;clear hr0 hc0;have H:(if (wrap64 (a1 - (l0.length:Int))) < 0 then (some (-1)) else (some (wrap64 (a1 - (l0.length:Int)))))=some r:=h;clear h
 by_cases c3:(wrap64 (a1 - (l0.length:Int))) < 0
 ·rw [if_pos c3] at H;have c3b0:decide ((wrap64 (a1 - (l0.length:Int))) < 0)=true:=decide_eq_true c3;clear c3;obtain rfl:=os H
  go_enter Try.func32,Try.ntmps32
  go_wp2;go_ret;exact ⟨e1,dn⟩
 ·rw [if_neg c3] at H;have c3b0:decide ((wrap64 (a1 - (l0.length:Int))) < 0)=false:=decide_eq_false c3;clear c3;obtain rfl:=os H
  go_enter Try.func32,Try.ntmps32
  go_wp2;go_ret;exact ⟨e1,dn⟩
def laws_toNode.f (A2:Int) (A3:Int) (A4:Int) (A7:Int) (A8:Int) (A9:Int):Option (Int × Int × Int × Int × Int × Int):=some (A2,A3,A4,A7,A8,A9)
set_option maxHeartbeats 8000000 in
set_option maxRecDepth 100000 in
theorem laws_toNode.calls (A2:Int) (A3:Int) (A4:Int) (A7:Int) (A8:Int) (A9:Int) (r1:Int) (r2:Int) (r3:Int) (r4:Int) (r5:Int) (r6:Int) (w:World) (h:laws_toNode.f A2 A3 A4 A7 A8 A9=some (r1,r2,r3,r4,r5,r6)) :
  Calls Try.prog 85 #[.agg #[.int .i64 A2,.int .i64 A3,.int .i64 A4,.int .i64 A7,.int .i64 A8,.int .i64 A9]] w fun e w'=>e = .returned (.agg #[.int .i64 r1,.int .i64 r2,.int .i64 r3,.int .i64 r4,.int .i64 r5,.int .i64 r6])∧Below w.heap.size w w':=by
 have hu101:=Try.underlying101;have hu99:=Try.underlying99;have HB:=Aside0.mk (Below.refl w.heap.size w);have H:(some (A2,A3,A4,A7,A8,A9))=some (r1,r2,r3,r4,r5,r6):=h;clear h;simp only [Option.some.injEq,Prod.mk.injEq] at H;obtain ⟨rfl,rfl,rfl,rfl,rfl,rfl⟩:=H
 go_enter Try.func85,Try.ntmps85
 go_wp2_with (first|((with_reducible refine gate_dst (N:=1) rfl ?_);refine bx (N:=1) (cs:=#[.int .i64 A2,.int .i64 A3,.int .i64 A4,.int .i64 A7,.int .i64 A8,.int .i64 A9]) (t:=101) ?_;intro A1 hg w2 hbox hb;have A5:=Aside0.mk (hbox);have GW101:=Aside0.mk ((by rw [hg];exact (below_size (tb HB)):w.heap.size≤A1));have GE101:=Aside0.mk ((by rw [hg];exact (below_size (tb HB)):w.heap.size≤A1));replace HB:=Aside0.mk (below_step (tb HB) hb);clear hb hbox hg)|((with_reducible refine gate_dst (N:=2) rfl ?_);refine bx (N:=2) (cs:=#[.int .i64 0,.int .i64 0,.int .i64 0,.int .i64 0,.int .i64 0,.int .i64 0]) (t:=99) ?_;intro A6 hg w3 hbox hb;have Aa:=Aside0.mk (hbox);have GW102:=Aside0.mk ((by rw [hg];exact (below_size (tb HB)):w.heap.size≤A6));have GE102:=Aside0.mk ((by rw [hg];exact (below_size (tb HB)):w.heap.size≤A6));replace HB:=Aside0.mk (below_step (tb HB) hb);have Ac:=Aside0.mk ((by rw [hg];exact Nat.ne_of_lt (blk_lt (g:=A1) (o := .cells #[.int .i64 A2,.int .i64 A3,.int .i64 A4,.int .i64 A7,.int .i64 A8,.int .i64 A9] 101 (0,0)) (dr A5)):A1≠A6));have Ad:=Aside0.mk ((by rw [hg];exact Nat.ne_of_gt (blk_lt (g:=A1) (o := .cells #[.int .i64 A2,.int .i64 A3,.int .i64 A4,.int .i64 A7,.int .i64 A8,.int .i64 A9] 101 (0,0)) (dr A5)):A6≠A1));replace A5:=Aside0.mk (blk_below (g:=A1) (o := .cells #[.int .i64 A2,.int .i64 A3,.int .i64 A4,.int .i64 A7,.int .i64 A8,.int .i64 A9] 101 (0,0)) (dr A5) hb);clear hb hbox hg)|((with_reducible refine gate_dst (N:=3) rfl ?_);refine bx (N:=3) (cs:=#[.int .i64 0,.int .i64 0,.int .i64 0,.int .i64 0,.int .i64 0,.int .i64 0]) (t:=99) ?_;intro Ab hg w4 hbox hb;have Ah:=Aside0.mk (hbox);have GW103:=Aside0.mk ((by rw [hg];exact (below_size (tb HB)):w.heap.size≤Ab));have GE103:=Aside0.mk ((by rw [hg];exact (below_size (tb HB)):w.heap.size≤Ab));replace HB:=Aside0.mk (below_step (tb HB) hb);have Ae:=Aside0.mk ((by rw [hg];exact Nat.ne_of_lt (blk_lt (g:=A1) (o := .cells #[.int .i64 A2,.int .i64 A3,.int .i64 A4,.int .i64 A7,.int .i64 A8,.int .i64 A9] 101 (0,0)) (dr A5)):A1≠Ab));have Af:=Aside0.mk ((by rw [hg];exact Nat.ne_of_gt (blk_lt (g:=A1) (o := .cells #[.int .i64 A2,.int .i64 A3,.int .i64 A4,.int .i64 A7,.int .i64 A8,.int .i64 A9] 101 (0,0)) (dr A5)):Ab≠A1));replace A5:=Aside0.mk (blk_below (g:=A1) (o := .cells #[.int .i64 A2,.int .i64 A3,.int .i64 A4,.int .i64 A7,.int .i64 A8,.int .i64 A9] 101 (0,0)) (dr A5) hb);have A0:=Aside0.mk ((by rw [hg];exact Nat.ne_of_lt (blk_lt (g:=A6) (o := .cells #[.int .i64 0,.int .i64 0,.int .i64 0,.int .i64 0,.int .i64 0,.int .i64 0] 99 (0,0)) (dr Aa)):A6≠Ab));have Ag:=Aside0.mk ((by rw [hg];exact Nat.ne_of_gt (blk_lt (g:=A6) (o := .cells #[.int .i64 0,.int .i64 0,.int .i64 0,.int .i64 0,.int .i64 0,.int .i64 0] 99 (0,0)) (dr Aa)):Ab≠A6));replace Aa:=Aside0.mk (blk_below (g:=A6) (o := .cells #[.int .i64 0,.int .i64 0,.int .i64 0,.int .i64 0,.int .i64 0,.int .i64 0] 99 (0,0)) (dr Aa) hb);clear hb hbox hg;have hnb5:=Ac.out;have hnc5:=Ad.out;have hnb6:=Ae.out;have hnc6:=Af.out;have hcz7__:=c6_ A5;have hfz7__:=f_ A5;have hnb8:=Ag.out;have hnc8:=A0.out;have hcz9__:=c6_ Ah;have hfz9__:=f_ Ah;have hcz10__:=c6_ Aa;have hfz10__:=f_ Aa))
 refine bodyPost_ret (results_cell_row rfl _ _ A6 99 #[.int .i64 A2,.int .i64 A3,.int .i64 A4,.int .i64 A7,.int .i64 A8,.int .i64 A9] (0,0) _ rfl (by (with_reducible repeat (first|refine blk_drewN ?_ _|refine blk_drew ?_|refine blk_alloc ?_ _));refine blk_put (cs:=#[.int .i64 A2,.int .i64 A3,.int .i64 A4,.int .i64 A7,.int .i64 A8,.int .i64 0]) ?_ 5 _ rfl;(with_reducible repeat (first|refine blk_drewN ?_ _|refine blk_drew ?_|refine blk_alloc ?_ _));refine blk_put (cs:=#[.int .i64 A2,.int .i64 A3,.int .i64 A4,.int .i64 A7,.int .i64 0,.int .i64 0]) ?_ 4 _ rfl;(with_reducible repeat (first|refine blk_drewN ?_ _|refine blk_drew ?_|refine blk_alloc ?_ _));refine blk_put (cs:=#[.int .i64 A2,.int .i64 A3,.int .i64 A4,.int .i64 0,.int .i64 0,.int .i64 0]) ?_ 3 _ rfl;(with_reducible repeat (first|refine blk_drewN ?_ _|refine blk_drew ?_|refine blk_alloc ?_ _));refine blk_put (cs:=#[.int .i64 A2,.int .i64 A3,.int .i64 0,.int .i64 0,.int .i64 0,.int .i64 0]) ?_ 2 _ rfl;(with_reducible repeat (first|refine blk_drewN ?_ _|refine blk_drew ?_|refine blk_alloc ?_ _));refine blk_put (cs:=#[.int .i64 A2,.int .i64 0,.int .i64 0,.int .i64 0,.int .i64 0,.int .i64 0]) ?_ 1 _ rfl;(with_reducible repeat (first|refine blk_drewN ?_ _|refine blk_drew ?_|refine blk_alloc ?_ _));refine blk_put (cs:=#[.int .i64 0,.int .i64 0,.int .i64 0,.int .i64 0,.int .i64 0,.int .i64 0]) ?_ 0 _ rfl;(with_reducible repeat (first|refine blk_drewN ?_ _|refine blk_drew ?_|refine blk_alloc ?_ _));refine blk_far ?_ A0.out _;(with_reducible repeat (first|refine blk_drewN ?_ _|refine blk_drew ?_|refine blk_alloc ?_ _));refine blk_far ?_ A0.out _;(with_reducible repeat (first|refine blk_drewN ?_ _|refine blk_drew ?_|refine blk_alloc ?_ _));refine blk_far ?_ A0.out _;(with_reducible repeat (first|refine blk_drewN ?_ _|refine blk_drew ?_|refine blk_alloc ?_ _));refine blk_far ?_ A0.out _;(with_reducible repeat (first|refine blk_drewN ?_ _|refine blk_drew ?_|refine blk_alloc ?_ _));refine blk_far ?_ A0.out _;(with_reducible repeat (first|refine blk_drewN ?_ _|refine blk_drew ?_|refine blk_alloc ?_ _));refine blk_far ?_ A0.out _;(with_reducible repeat (first|refine blk_drewN ?_ _|refine blk_drew ?_|refine blk_alloc ?_ _));exact Aa.out) Try.underlying99 rfl (by kernel_rfl)) rfl ?_;exact ⟨er,tb HB⟩
def laws_toNodeS.l0:Nat→List (S101)→List (S99)→Int→Option ((List (S99)))
 | 0,_,_,_=>none
 | k + 1,x0,x3,x4=>if x4 < (x0.length:Int) then (if 0≤x4 then ((laws_toNode.f ((rd_T101 x0 x4).f0) ((rd_T101 x0 x4).f1) ((rd_T101 x0 x4).f2) ((rd_T101 x0 x4).f3) ((rd_T101 x0 x4).f4) ((rd_T101 x0 x4).f5)).bind fun bt105=>(if x4 < (x3.length:Int) then (laws_toNodeS.l0 k x0 (x3.set (x4:Int).toNat (⟨bt105.1,bt105.2.1,bt105.2.2.1,bt105.2.2.2.1,bt105.2.2.2.2.1,bt105.2.2.2.2.2⟩:S99)) (wrap64 (x4 + 1))) else (none))) else (none)) else (some x3)
def laws_toNodeS.f (k:Nat) (l0:List (S101)):Option ((List (S99))):=if 0≤(l0.length:Int) then (if ((l0.length:Int):Int).toNat≤5864062014805 then (laws_toNodeS.l0 k l0 (List.replicate ((l0.length:Int):Int).toNat z99) 0) else (none)) else (none)
set_option maxHeartbeats 8000000 in
set_option maxRecDepth 100000 in
theorem laws_toNodeS.calls (k:Nat) (A0:Option Addr) (c0:Nat) (l0:List (S101)) (r:List (S99)) (w:World) (hr0:Kd.C k101 w A0 l0.length l0) (hc0:l0.length≤c0) (h:laws_toNodeS.f k l0=some r) :
  Calls Try.prog 36 #[.slice A0 l0.length c0] w fun e w'=>∃ v0_:Value,e = .returned (v0_)∧Kd.R k99 99 w' w.heap.size (fun _=>True) v0_ r∧Below w.heap.size w w':=by
 have hu101:=Try.underlying101;have hu99:=Try.underlying99;have HR0:=Aside0.mk hr0;have HC0:=Aside0.mk hc0;clear hr0 hc0;have HB:=Aside0.mk (Below.refl w.heap.size w);have H:(if 0≤(l0.length:Int) then (if ((l0.length:Int):Int).toNat≤5864062014805 then (laws_toNodeS.l0 k l0 (List.replicate ((l0.length:Int):Int).toNat z99) 0) else (none)) else (none))=some r:=h;clear h
 by_cases c2:0≤(l0.length:Int)
 ·rw [if_pos c2] at H;have c2b0:=eq_true c2;have c2b1:decide (0≤(l0.length:Int))=true:=decide_eq_true c2;clear c2
  by_cases c3:((l0.length:Int):Int).toNat≤5864062014805
  ·rw [if_pos c3] at H;have c3b0:=eq_true c3;have c3b1:decide (((l0.length:Int):Int).toNat≤5864062014805)=true:=decide_eq_true c3;clear c3;obtain ⟨y101,hy101⟩:∃ y_:List (S99),y_=(List.replicate ((l0.length:Int):Int).toNat z99):=⟨_,rfl⟩
   replace H:(laws_toNodeS.l0 k l0 y101 0)=some r:=by first|(rw [hy101];with_reducible exact H)|(have H2_:=(Option.bind_some _ _).symm.trans H;rw [hy101];with_reducible exact H2_)|(have H2_:=(Option.bind_some _ _).symm.trans H;with_reducible exact H2_)|with_reducible exact H|(rw [hy101];exact H)|exact H
   have Ny101:=Aside0.mk hy101;clear hy101;have H':=Aside0.mk H;clear H
   go_enter Try.func36,Try.ntmps36
   go_wp2_with (first|((with_reducible refine gate_dst (N:=7) rfl ?_);refine Kd.R_make k99 _ 99 rfl (N:=7) rfl 54 _ _ rfl (l0.length:Int) rfl rfl Try.underlying54 (.agg #[(.int .i64 0),(.int .i64 0),(.int .i64 0),(.int .i64 0),(.int .i64 0),(.int .i64 0)]) 48 info99 rfl (by decide) (by omega) z99 (ok:=fun _=>True) (okp:=fun _=>True) (k99_mkM _ _ _ z99 ) (fun _ hk=>hk) trivial (od) (Nat.le_trans (Nat.mul_le_mul_right _ (od:(l0.length:Int).toNat≤5864062014805)) (by omega)) (Below.refl _ _) (Nat.le_refl _) ?_;intro v102 w4 ho5 hb hg_ hnew_;clear hg_ hnew_;(first|rw [← Ny101.out] at ho5|(simp only [Int.reduceToNat] at ho5;rw [← Ny101.out] at ho5));have Ab:=Aside0.mk (Kd.R_lower ho5 (below_size (tb HB)));replace HB:=Aside0.mk (below_step (tb HB) hb);clear hb ho5))
   go_loopg [4] k (fun kq v4 w'=>∃ (A2:List (S99)) (A1:Int),v4 = .int .i64 A1∧Aside0 (laws_toNodeS.l0 kq l0 A2 A1=some r)∧Aside0 (kq≤k)∧Aside0 (Kd.R k99 99 w' w.heap.size (fun _=>True) v102 A2)∧Aside0 (Below w.heap.size w w'))
   case atStart=>exact ⟨(y101),(0),(by first|rfl|(simp;done)|(simp [*];done)),H',⟨Nat.le_refl _⟩,⟨ra Ab⟩,⟨by exact tb HB⟩⟩
   case round =>
    clear H';(try clear c2);(try clear c2b0);(try clear c2b1);(try clear p2);(try clear c3);(try clear c3b0);(try clear c3b1);obtain ⟨A2,A1,rfl,HA,HK1,A3,HB⟩:=hrel
    cases gk with
    | zero=>exact absurd HA.out (by simp [laws_toNodeS.l0])
    | succ k1 =>
     have H:=HA.out;clear HA;simp only [laws_toNodeS.l0] at H
     by_cases c6:A1 < (l0.length:Int)
     ·rw [if_pos c6] at H;have c6b0:decide (A1 < (l0.length:Int))=true:=decide_eq_true c6;clear c6
      by_cases c7:0≤A1
      ·rw [if_pos c7] at H;have c7b0:decide (0≤A1)=true:=decide_eq_true c7;clear c7;replace H:=ob H;obtain ⟨⟨A4,A5,A6,A7,A9,Aa⟩,A80,H⟩:=H;replace H:(if A1 < (A2.length:Int) then (laws_toNodeS.l0 k1 l0 (A2.set (A1:Int).toNat (⟨A4,A5,A6,A7,A9,Aa⟩:S99)) (wrap64 (A1 + 1))) else (none))=some r:=H;have A8:=Aside0.mk A80;clear A80
       by_cases c9:A1 < (A2.length:Int)
       ·rw [if_pos c9] at H;have c9b0:decide (A1 < (A2.length:Int))=true:=decide_eq_true c9;clear c9;obtain ⟨y111,hy111⟩:∃ y_:List (S99),y_=(A2.set (A1:Int).toNat (⟨A4,A5,A6,A7,A9,Aa⟩:S99)):=⟨_,rfl⟩
        replace H:(laws_toNodeS.l0 k1 l0 y111 (wrap64 (A1 + 1)))=some r:=by first|(rw [hy111];with_reducible exact H)|(have H2_:=(Option.bind_some _ _).symm.trans H;rw [hy111];with_reducible exact H2_)|(have H2_:=(Option.bind_some _ _).symm.trans H;with_reducible exact H2_)|with_reducible exact H|(rw [hy111];exact H)|exact H
        have Ny111:=Aside0.mk hy111;clear hy111;have H':=Aside0.mk H;clear H;have p104:0≤(A1:Int):=od;have q104:A1 < (l0.length:Int):=od;obtain ⟨ad104,e104,hx104_0,hx104_1,hx104_2,hx104_3,hx104_4,hx104_5⟩:=at_T101 HR0.out A1 p104 q104;cases e104;replace hx104_0:=ct HB hx104_0;replace hx104_1:=ct HB hx104_1;replace hx104_2:=ct HB hx104_2;replace hx104_3:=ct HB hx104_3;replace hx104_4:=ct HB hx104_4;replace hx104_5:=ct HB hx104_5;replace p104:=eq_true p104;replace q104:=eq_true q104
        go_wp2_with (first|((with_reducible refine gate_callee (f:=85) rfl ?_);refine goesL_ (some 20) rfl rfl Try.func85 (by kernel_rfl) rfl #[.agg #[.int .i64 ((rd_T101 l0 A1).f0),.int .i64 ((rd_T101 l0 A1).f1),.int .i64 ((rd_T101 l0 A1).f2),.int .i64 ((rd_T101 l0 A1).f3),.int .i64 ((rd_T101 l0 A1).f4),.int .i64 ((rd_T101 l0 A1).f5)]] rfl ml ?_;(with_reducible refine (laws_toNode.calls ((rd_T101 l0 A1).f0) ((rd_T101 l0 A1).f1) ((rd_T101 l0 A1).f2) ((rd_T101 l0 A1).f3) ((rd_T101 l0 A1).f4) ((rd_T101 l0 A1).f5) A4 A5 A6 A7 A9 Aa _ A8.out).mono ?_);rintro e w11 ⟨rfl,hb⟩;refine ⟨_,rfl,?_⟩;replace A3:=Aside0.mk (Kd.R_below (ra A3) hb);replace HB:=Aside0.mk (below_step (tb HB) hb);(try clear hb);(try clear hb2);(try clear hk);(try clear hi);have p10:0≤(A1:Int):=od;have q10:(A1:Int) < ((A2.length:Int):Int):=od;obtain ⟨go10,Ac,eo10,Ad,gl10,cl10,HG10⟩:=Kd.R_form A3.out (by omega);(first|cases eo10|(injection eo10 with ea_ en_ ec_;(first|subst ea_|(injection ea_ with ea_;subst ea_));subst ec_;clear en_));have GB10:=Aside0.mk Ad;have GG10:=Aside0.mk HG10;clear Ad gl10 HG10;obtain ⟨ce10,hcl10,hM10,hcc10,hfr10⟩:=Kd.R_elem A3.out z99 (A1:Int) p10 q10;obtain rfl:=k99_openM hM10;have hx10_0:w11.cell? ⟨go10,(A1:Int).toNat * 6,none⟩=some (.int .i64 ((rd_T99 A2 A1).f0)):=hcc10 0 _ rfl;have hx10_1:w11.cell? ⟨go10,(A1:Int).toNat * 6 + 1,none⟩=some (.int .i64 ((rd_T99 A2 A1).f1)):=hcc10 1 _ rfl;have hx10_2:w11.cell? ⟨go10,(A1:Int).toNat * 6 + 2,none⟩=some (.int .i64 ((rd_T99 A2 A1).f2)):=hcc10 2 _ rfl;have hx10_3:w11.cell? ⟨go10,(A1:Int).toNat * 6 + 3,none⟩=some (.int .i64 ((rd_T99 A2 A1).f3)):=hcc10 3 _ rfl;have hx10_4:w11.cell? ⟨go10,(A1:Int).toNat * 6 + 4,none⟩=some (.int .i64 ((rd_T99 A2 A1).f4)):=hcc10 4 _ rfl;have hx10_5:w11.cell? ⟨go10,(A1:Int).toNat * 6 + 5,none⟩=some (.int .i64 ((rd_T99 A2 A1).f5)):=hcc10 5 _ rfl;have hf10_0:w11.frozen? ⟨go10,(A1:Int).toNat * 6,none⟩=false:=hfr10 0;have hf10_1:w11.frozen? ⟨go10,(A1:Int).toNat * 6 + 1,none⟩=false:=hfr10 1;have hf10_2:w11.frozen? ⟨go10,(A1:Int).toNat * 6 + 2,none⟩=false:=hfr10 2;have hf10_3:w11.frozen? ⟨go10,(A1:Int).toNat * 6 + 3,none⟩=false:=hfr10 3;have hf10_4:w11.frozen? ⟨go10,(A1:Int).toNat * 6 + 4,none⟩=false:=hfr10 4;have hf10_5:w11.frozen? ⟨go10,(A1:Int).toNat * 6 + 5,none⟩=false:=hfr10 5;clear hcl10 hcc10 hfr10 hM10;replace p10:=eq_true p10;replace q10:=eq_true q10;have HX12:=Aside0.mk (show Kd.R k99 99 w11 w.heap.size (fun _=>True) (.slice (some ⟨go10,0,none⟩) A2.length Ac) A2 from (ra A3));obtain ⟨ce12,hcl12,hM12,hcc12,hfr12⟩:=Kd.R_elem HX12.out z99 (A1:Int) (od) (by have h_:(A1:Int) < ((A2.length:Int):Int):=od;first|exact h_|(have e_:=(Kd.R_reads' A3.out).1;omega)|simpa using h_);obtain rfl:=k99_openM hM12;have HP12:=Kd.R_seg HX12.out (A1:Int) (od) (by have h_:(A1:Int) < ((A2.length:Int):Int):=od;first|exact h_|(have e_:=(Kd.R_reads' A3.out).1;omega)|simpa using h_) (seg:=[.int .i64 A4,.int .i64 A5,.int .i64 A6,.int .i64 A7,.int .i64 A9,.int .i64 Aa]) (j:=0) hcl12 hcc12 (show 6≤6 from by decide) (x':=(⟨A4,A5,A6,A7,A9,Aa⟩:S99)) (k99_mkM _ _ _ (⟨A4,A5,A6,A7,A9,Aa⟩:S99) ) (fun _ hk=>hk);have hx12_0:=hcc12 0 _ rfl;(try simp only [show (k99).sz=6 from rfl,Nat.mul_one,Nat.add_zero] at hx12_0);have hf12_0:=hfr12 0;(try simp only [show (k99).sz=6 from rfl,Nat.mul_one,Nat.add_zero] at hf12_0);have hx12_1:=hcc12 1 _ rfl;(try simp only [show (k99).sz=6 from rfl,Nat.mul_one,Nat.add_zero] at hx12_1);have hf12_1:=hfr12 1;(try simp only [show (k99).sz=6 from rfl,Nat.mul_one,Nat.add_zero] at hf12_1);have hx12_2:=hcc12 2 _ rfl;(try simp only [show (k99).sz=6 from rfl,Nat.mul_one,Nat.add_zero] at hx12_2);have hf12_2:=hfr12 2;(try simp only [show (k99).sz=6 from rfl,Nat.mul_one,Nat.add_zero] at hf12_2);have hx12_3:=hcc12 3 _ rfl;(try simp only [show (k99).sz=6 from rfl,Nat.mul_one,Nat.add_zero] at hx12_3);have hf12_3:=hfr12 3;(try simp only [show (k99).sz=6 from rfl,Nat.mul_one,Nat.add_zero] at hf12_3);have hx12_4:=hcc12 4 _ rfl;(try simp only [show (k99).sz=6 from rfl,Nat.mul_one,Nat.add_zero] at hx12_4);have hf12_4:=hfr12 4;(try simp only [show (k99).sz=6 from rfl,Nat.mul_one,Nat.add_zero] at hf12_4);have hx12_5:=hcc12 5 _ rfl;(try simp only [show (k99).sz=6 from rfl,Nat.mul_one,Nat.add_zero] at hx12_5);have hf12_5:=hfr12 5;(try simp only [show (k99).sz=6 from rfl,Nat.mul_one,Nat.add_zero] at hf12_5);clear hcl12 hcc12 hfr12 hM12)|((with_reducible refine gate_store (t:=99) (p:=21) rfl ?_);refine store_event (t:=99) (p:=21) (v:=?vo_w13) (w1:=((((((w11.setCell ⟨go10,(A1:Int).toNat * 6,none⟩ (.int .i64 A4)).setCell ⟨go10,(A1:Int).toNat * 6 + 1,none⟩ (.int .i64 A5)).setCell ⟨go10,(A1:Int).toNat * 6 + 2,none⟩ (.int .i64 A6)).setCell ⟨go10,(A1:Int).toNat * 6 + 3,none⟩ (.int .i64 A7)).setCell ⟨go10,(A1:Int).toNat * 6 + 4,none⟩ (.int .i64 A9)).setCell ⟨go10,(A1:Int).toNat * 6 + 5,none⟩ (.int .i64 Aa))) ?hg ?ho ?hn ?hr ?_;(case ho=>rfl);(case hg=>rfl);(case hn=>rfl);(case hr=>first|(go_simp;done)|(go_simp;rfl));intro w13 hw;have hg:w11.grownBy w13 (some go10):=(by rw [hw];exact HP12.2);have hp_:Kd.R k99 99 w13 w.heap.size (fun _=>True) (.slice (some ⟨go10,0,none⟩) A2.length Ac) y111:=(by rw [hw,Ny111.out];exact HP12.1);clear HP12;replace A3:=Aside0.mk (hp_);replace HB:=Aside0.mk ((by rw [hw];exact below_set (below_set (below_set (below_set (below_set (below_set (HB.out) GB10.out) GB10.out) GB10.out) GB10.out) GB10.out) GB10.out:Below w.heap.size w w13));clear hg hw hp_))
        go_roundg k1
        case measure=>have:=HK1.out;omega
        case rel=>exact ⟨(y111),(wrap64 (A1 + 1)),(by first|rfl|(simp;done)|(simp [*];done)),H',⟨by have:=HK1.out;omega⟩,⟨ra A3⟩,⟨by exact tb HB⟩⟩
       ·rw [if_neg c9] at H;exact absurd H (by simp)
      ·rw [if_neg c7] at H;exact absurd H (by simp)
     ·rw [if_neg c6] at H;have c6b0:decide (A1 < (l0.length:Int))=false:=decide_eq_false c6;clear c6;obtain rfl:=os H;go_wp2;go_ret;exact ⟨_,er,ra A3,tb HB⟩
  ·rw [if_neg c3] at H;exact absurd H (by simp)
 ·rw [if_neg c2] at H;exact absurd H (by simp)
def laws_toQuant.f (A4:Bool) (A5:Int) (A6:Int):Option (Bool × Int × Int):=some (A4,A5,A6)
set_option maxHeartbeats 8000000 in
set_option maxRecDepth 100000 in
theorem laws_toQuant.calls (A4:Bool) (A5:Int) (A6:Int) (r1:Bool) (r2:Int) (r3:Int) (w:World) (h:laws_toQuant.f A4 A5 A6=some (r1,r2,r3)) :
  Calls Try.prog 84 #[.agg #[.bool A4,.int .i64 A5,.int .i64 A6]] w fun e w'=>e = .returned (.agg #[.bool r1,.int .i64 r2,.int .i64 r3])∧Below w.heap.size w w':=by
 have hu97:=Try.underlying97;have hu66:=Try.underlying66;have HB:=Aside0.mk (Below.refl w.heap.size w);have H:(some (A4,A5,A6))=some (r1,r2,r3):=h;clear h;simp only [Option.some.injEq,Prod.mk.injEq] at H;obtain ⟨rfl,rfl,rfl⟩:=H
 go_enter Try.func84,Try.ntmps84
 go_wp2_with (first|((with_reducible refine gate_dst (N:=1) rfl ?_);refine bx (N:=1) (cs:=#[.bool A4,.int .i64 A5,.int .i64 A6]) (t:=97) ?_;intro A0 hg w2 hbox hb;have A2:=Aside0.mk (hbox);have GW101:=Aside0.mk ((by rw [hg];exact (below_size (tb HB)):w.heap.size≤A0));have GE101:=Aside0.mk ((by rw [hg];exact (below_size (tb HB)):w.heap.size≤A0));replace HB:=Aside0.mk (below_step (tb HB) hb);clear hb hbox hg)|((with_reducible refine gate_dst (N:=2) rfl ?_);refine bx (N:=2) (cs:=#[.bool false,.int .i64 0,.int .i64 0]) (t:=66) ?_;intro A3 hg w3 hbox hb;have A7:=Aside0.mk (hbox);have GW102:=Aside0.mk ((by rw [hg];exact (below_size (tb HB)):w.heap.size≤A3));have GE102:=Aside0.mk ((by rw [hg];exact (below_size (tb HB)):w.heap.size≤A3));replace HB:=Aside0.mk (below_step (tb HB) hb);have A9:=Aside0.mk ((by rw [hg];exact Nat.ne_of_lt (blk_lt (g:=A0) (o := .cells #[.bool A4,.int .i64 A5,.int .i64 A6] 97 (0,0)) (dr A2)):A0≠A3));have Aa:=Aside0.mk ((by rw [hg];exact Nat.ne_of_gt (blk_lt (g:=A0) (o := .cells #[.bool A4,.int .i64 A5,.int .i64 A6] 97 (0,0)) (dr A2)):A3≠A0));replace A2:=Aside0.mk (blk_below (g:=A0) (o := .cells #[.bool A4,.int .i64 A5,.int .i64 A6] 97 (0,0)) (dr A2) hb);clear hb hbox hg)|((with_reducible refine gate_dst (N:=3) rfl ?_);refine bx (N:=3) (cs:=#[.bool false,.int .i64 0,.int .i64 0]) (t:=66) ?_;intro A8 hg w4 hbox hb;have Ae:=Aside0.mk (hbox);have GW103:=Aside0.mk ((by rw [hg];exact (below_size (tb HB)):w.heap.size≤A8));have GE103:=Aside0.mk ((by rw [hg];exact (below_size (tb HB)):w.heap.size≤A8));replace HB:=Aside0.mk (below_step (tb HB) hb);have Ab:=Aside0.mk ((by rw [hg];exact Nat.ne_of_lt (blk_lt (g:=A0) (o := .cells #[.bool A4,.int .i64 A5,.int .i64 A6] 97 (0,0)) (dr A2)):A0≠A8));have Ac:=Aside0.mk ((by rw [hg];exact Nat.ne_of_gt (blk_lt (g:=A0) (o := .cells #[.bool A4,.int .i64 A5,.int .i64 A6] 97 (0,0)) (dr A2)):A8≠A0));replace A2:=Aside0.mk (blk_below (g:=A0) (o := .cells #[.bool A4,.int .i64 A5,.int .i64 A6] 97 (0,0)) (dr A2) hb);have A1:=Aside0.mk ((by rw [hg];exact Nat.ne_of_lt (blk_lt (g:=A3) (o := .cells #[.bool false,.int .i64 0,.int .i64 0] 66 (0,0)) (dr A7)):A3≠A8));have Ad:=Aside0.mk ((by rw [hg];exact Nat.ne_of_gt (blk_lt (g:=A3) (o := .cells #[.bool false,.int .i64 0,.int .i64 0] 66 (0,0)) (dr A7)):A8≠A3));replace A7:=Aside0.mk (blk_below (g:=A3) (o := .cells #[.bool false,.int .i64 0,.int .i64 0] 66 (0,0)) (dr A7) hb);clear hb hbox hg;have hnb5:=A9.out;have hnc5:=Aa.out;have hnb6:=Ab.out;have hnc6:=Ac.out;have hcz7__:=c3_ A2;have hfz7__:=f_ A2;have hnb8:=Ad.out;have hnc8:=A1.out;have hcz9__:=c3_ Ae;have hfz9__:=f_ Ae;have hcz10__:=c3_ A7;have hfz10__:=f_ A7))
 refine bodyPost_ret (results_cell_row rfl _ _ A3 66 #[.bool A4,.int .i64 A5,.int .i64 A6] (0,0) _ rfl (by (with_reducible repeat (first|refine blk_drewN ?_ _|refine blk_drew ?_|refine blk_alloc ?_ _));refine blk_put (cs:=#[.bool A4,.int .i64 A5,.int .i64 0]) ?_ 2 _ rfl;(with_reducible repeat (first|refine blk_drewN ?_ _|refine blk_drew ?_|refine blk_alloc ?_ _));refine blk_put (cs:=#[.bool A4,.int .i64 0,.int .i64 0]) ?_ 1 _ rfl;(with_reducible repeat (first|refine blk_drewN ?_ _|refine blk_drew ?_|refine blk_alloc ?_ _));refine blk_put (cs:=#[.bool false,.int .i64 0,.int .i64 0]) ?_ 0 _ rfl;(with_reducible repeat (first|refine blk_drewN ?_ _|refine blk_drew ?_|refine blk_alloc ?_ _));refine blk_far ?_ A1.out _;(with_reducible repeat (first|refine blk_drewN ?_ _|refine blk_drew ?_|refine blk_alloc ?_ _));refine blk_far ?_ A1.out _;(with_reducible repeat (first|refine blk_drewN ?_ _|refine blk_drew ?_|refine blk_alloc ?_ _));refine blk_far ?_ A1.out _;(with_reducible repeat (first|refine blk_drewN ?_ _|refine blk_drew ?_|refine blk_alloc ?_ _));exact A7.out) Try.underlying66 rfl (by kernel_rfl)) rfl ?_;exact ⟨er,tb HB⟩
def laws_toQuantS.l0:Nat→List (S97)→List (S66)→Int→Option ((List (S66)))
 | 0,_,_,_=>none
 | k + 1,x0,x3,x4=>if x4 < (x0.length:Int) then (if 0≤x4 then ((laws_toQuant.f ((rd_T97 x0 x4).f0) ((rd_T97 x0 x4).f1) ((rd_T97 x0 x4).f2)).bind fun bt105=>(if x4 < (x3.length:Int) then (laws_toQuantS.l0 k x0 (x3.set (x4:Int).toNat (⟨bt105.1,bt105.2.1,bt105.2.2⟩:S66)) (wrap64 (x4 + 1))) else (none))) else (none)) else (some x3)
def laws_toQuantS.f (k:Nat) (l0:List (S97)):Option ((List (S66))):=if 0≤(l0.length:Int) then (if ((l0.length:Int):Int).toNat≤11728124029610 then (laws_toQuantS.l0 k l0 (List.replicate ((l0.length:Int):Int).toNat z66) 0) else (none)) else (none)
set_option maxHeartbeats 8000000 in
set_option maxRecDepth 100000 in
theorem laws_toQuantS.calls (k:Nat) (A0:Option Addr) (c0:Nat) (l0:List (S97)) (r:List (S66)) (w:World) (hr0:Kd.C k97 w A0 l0.length l0) (hc0:l0.length≤c0) (h:laws_toQuantS.f k l0=some r) :
  Calls Try.prog 35 #[.slice A0 l0.length c0] w fun e w'=>∃ v0_:Value,e = .returned (v0_)∧Kd.R k66 66 w' w.heap.size (fun _=>True) v0_ r∧Below w.heap.size w w':=by
 have hu97:=Try.underlying97;have hu66:=Try.underlying66;have HR0:=Aside0.mk hr0;have HC0:=Aside0.mk hc0;clear hr0 hc0;have HB:=Aside0.mk (Below.refl w.heap.size w);have H:(if 0≤(l0.length:Int) then (if ((l0.length:Int):Int).toNat≤11728124029610 then (laws_toQuantS.l0 k l0 (List.replicate ((l0.length:Int):Int).toNat z66) 0) else (none)) else (none))=some r:=h;clear h
 by_cases c2:0≤(l0.length:Int)
 ·rw [if_pos c2] at H;have c2b0:=eq_true c2;have c2b1:decide (0≤(l0.length:Int))=true:=decide_eq_true c2;clear c2
  by_cases c3:((l0.length:Int):Int).toNat≤11728124029610
  ·rw [if_pos c3] at H;have c3b0:=eq_true c3;have c3b1:decide (((l0.length:Int):Int).toNat≤11728124029610)=true:=decide_eq_true c3;clear c3;obtain ⟨y101,hy101⟩:∃ y_:List (S66),y_=(List.replicate ((l0.length:Int):Int).toNat z66):=⟨_,rfl⟩
   replace H:(laws_toQuantS.l0 k l0 y101 0)=some r:=by first|(rw [hy101];with_reducible exact H)|(have H2_:=(Option.bind_some _ _).symm.trans H;rw [hy101];with_reducible exact H2_)|(have H2_:=(Option.bind_some _ _).symm.trans H;with_reducible exact H2_)|with_reducible exact H|(rw [hy101];exact H)|exact H
   have Ny101:=Aside0.mk hy101;clear hy101;have H':=Aside0.mk H;clear H
   go_enter Try.func35,Try.ntmps35
   go_wp2_with (first|((with_reducible refine gate_dst (N:=7) rfl ?_);refine Kd.R_make k66 _ 66 rfl (N:=7) rfl 52 _ _ rfl (l0.length:Int) rfl rfl Try.underlying52 (.agg #[(.bool false),(.int .i64 0),(.int .i64 0)]) 24 info66 rfl (by decide) (by omega) z66 (ok:=fun _=>True) (okp:=fun _=>True) (k66_mkM _ _ _ z66 ) (fun _ hk=>hk) trivial (od) (Nat.le_trans (Nat.mul_le_mul_right _ (od:(l0.length:Int).toNat≤11728124029610)) (by omega)) (Below.refl _ _) (Nat.le_refl _) ?_;intro v102 w4 ho5 hb hg_ hnew_;clear hg_ hnew_;(first|rw [← Ny101.out] at ho5|(simp only [Int.reduceToNat] at ho5;rw [← Ny101.out] at ho5));have A7:=Aside0.mk (Kd.R_lower ho5 (below_size (tb HB)));replace HB:=Aside0.mk (below_step (tb HB) hb);clear hb ho5))
   go_loopg [4] k (fun kq v4 w'=>∃ (A2:List (S66)) (A1:Int),v4 = .int .i64 A1∧Aside0 (laws_toQuantS.l0 kq l0 A2 A1=some r)∧Aside0 (kq≤k)∧Aside0 (Kd.R k66 66 w' w.heap.size (fun _=>True) v102 A2)∧Aside0 (Below w.heap.size w w'))
   case atStart=>exact ⟨(y101),(0),(by first|rfl|(simp;done)|(simp [*];done)),H',⟨Nat.le_refl _⟩,⟨ra A7⟩,⟨by exact tb HB⟩⟩
   case round =>
    clear H';(try clear c2);(try clear c2b0);(try clear c2b1);(try clear p2);(try clear c3);(try clear c3b0);(try clear c3b1);obtain ⟨A2,A1,rfl,HA,HK1,A3,HB⟩:=hrel
    cases gk with
    | zero=>exact absurd HA.out (by simp [laws_toQuantS.l0])
    | succ k1 =>
     have H:=HA.out;clear HA;simp only [laws_toQuantS.l0] at H
     by_cases c6:A1 < (l0.length:Int)
     ·rw [if_pos c6] at H;have c6b0:decide (A1 < (l0.length:Int))=true:=decide_eq_true c6;clear c6
      by_cases c7:0≤A1
      ·rw [if_pos c7] at H;have c7b0:decide (0≤A1)=true:=decide_eq_true c7;clear c7;replace H:=ob H;obtain ⟨⟨A4,A5,A6⟩,A80,H⟩:=H;replace H:(if A1 < (A2.length:Int) then (laws_toQuantS.l0 k1 l0 (A2.set (A1:Int).toNat (⟨A4,A5,A6⟩:S66)) (wrap64 (A1 + 1))) else (none))=some r:=H;have A8:=Aside0.mk A80;clear A80
       by_cases c9:A1 < (A2.length:Int)
       ·rw [if_pos c9] at H;have c9b0:decide (A1 < (A2.length:Int))=true:=decide_eq_true c9;clear c9;obtain ⟨y108,hy108⟩:∃ y_:List (S66),y_=(A2.set (A1:Int).toNat (⟨A4,A5,A6⟩:S66)):=⟨_,rfl⟩
        replace H:(laws_toQuantS.l0 k1 l0 y108 (wrap64 (A1 + 1)))=some r:=by first|(rw [hy108];with_reducible exact H)|(have H2_:=(Option.bind_some _ _).symm.trans H;rw [hy108];with_reducible exact H2_)|(have H2_:=(Option.bind_some _ _).symm.trans H;with_reducible exact H2_)|with_reducible exact H|(rw [hy108];exact H)|exact H
        have Ny108:=Aside0.mk hy108;clear hy108;have H':=Aside0.mk H;clear H;have p104:0≤(A1:Int):=od;have q104:A1 < (l0.length:Int):=od;obtain ⟨ad104,e104,hx104_0,hx104_1,hx104_2⟩:=at_T97 HR0.out A1 p104 q104;cases e104;replace hx104_0:=ct HB hx104_0;replace hx104_1:=ct HB hx104_1;replace hx104_2:=ct HB hx104_2;replace p104:=eq_true p104;replace q104:=eq_true q104
        go_wp2_with (first|((with_reducible refine gate_callee (f:=84) rfl ?_);refine goesL_ (some 20) rfl rfl Try.func84 (by kernel_rfl) rfl #[.agg #[.bool ((rd_T97 l0 A1).f0),.int .i64 ((rd_T97 l0 A1).f1),.int .i64 ((rd_T97 l0 A1).f2)]] rfl ml ?_;(with_reducible refine (laws_toQuant.calls ((rd_T97 l0 A1).f0) ((rd_T97 l0 A1).f1) ((rd_T97 l0 A1).f2) A4 A5 A6 _ A8.out).mono ?_);rintro e w11 ⟨rfl,hb⟩;refine ⟨_,rfl,?_⟩;replace A3:=Aside0.mk (Kd.R_below (ra A3) hb);replace HB:=Aside0.mk (below_step (tb HB) hb);(try clear hb);(try clear hb2);(try clear hk);(try clear hi);have p10:0≤(A1:Int):=od;have q10:(A1:Int) < ((A2.length:Int):Int):=od;obtain ⟨go10,A9,eo10,Aa,gl10,cl10,HG10⟩:=Kd.R_form A3.out (by omega);(first|cases eo10|(injection eo10 with ea_ en_ ec_;(first|subst ea_|(injection ea_ with ea_;subst ea_));subst ec_;clear en_));have GB10:=Aside0.mk Aa;have GG10:=Aside0.mk HG10;clear Aa gl10 HG10;obtain ⟨ce10,hcl10,hM10,hcc10,hfr10⟩:=Kd.R_elem A3.out z66 (A1:Int) p10 q10;obtain rfl:=k66_openM hM10;have hx10_0:w11.cell? ⟨go10,(A1:Int).toNat * 3,none⟩=some (.bool ((rd_T66 A2 A1).f0)):=hcc10 0 _ rfl;have hx10_1:w11.cell? ⟨go10,(A1:Int).toNat * 3 + 1,none⟩=some (.int .i64 ((rd_T66 A2 A1).f1)):=hcc10 1 _ rfl;have hx10_2:w11.cell? ⟨go10,(A1:Int).toNat * 3 + 2,none⟩=some (.int .i64 ((rd_T66 A2 A1).f2)):=hcc10 2 _ rfl;have hf10_0:w11.frozen? ⟨go10,(A1:Int).toNat * 3,none⟩=false:=hfr10 0;have hf10_1:w11.frozen? ⟨go10,(A1:Int).toNat * 3 + 1,none⟩=false:=hfr10 1;have hf10_2:w11.frozen? ⟨go10,(A1:Int).toNat * 3 + 2,none⟩=false:=hfr10 2;clear hcl10 hcc10 hfr10 hM10;replace p10:=eq_true p10;replace q10:=eq_true q10;have HX12:=Aside0.mk (show Kd.R k66 66 w11 w.heap.size (fun _=>True) (.slice (some ⟨go10,0,none⟩) A2.length A9) A2 from (ra A3));obtain ⟨ce12,hcl12,hM12,hcc12,hfr12⟩:=Kd.R_elem HX12.out z66 (A1:Int) (od) (by have h_:(A1:Int) < ((A2.length:Int):Int):=od;first|exact h_|(have e_:=(Kd.R_reads' A3.out).1;omega)|simpa using h_);obtain rfl:=k66_openM hM12;have HP12:=Kd.R_seg HX12.out (A1:Int) (od) (by have h_:(A1:Int) < ((A2.length:Int):Int):=od;first|exact h_|(have e_:=(Kd.R_reads' A3.out).1;omega)|simpa using h_) (seg:=[.bool A4,.int .i64 A5,.int .i64 A6]) (j:=0) hcl12 hcc12 (show 3≤3 from by decide) (x':=(⟨A4,A5,A6⟩:S66)) (k66_mkM _ _ _ (⟨A4,A5,A6⟩:S66) ) (fun _ hk=>hk);have hx12_0:=hcc12 0 _ rfl;(try simp only [show (k66).sz=3 from rfl,Nat.mul_one,Nat.add_zero] at hx12_0);have hf12_0:=hfr12 0;(try simp only [show (k66).sz=3 from rfl,Nat.mul_one,Nat.add_zero] at hf12_0);have hx12_1:=hcc12 1 _ rfl;(try simp only [show (k66).sz=3 from rfl,Nat.mul_one,Nat.add_zero] at hx12_1);have hf12_1:=hfr12 1;(try simp only [show (k66).sz=3 from rfl,Nat.mul_one,Nat.add_zero] at hf12_1);have hx12_2:=hcc12 2 _ rfl;(try simp only [show (k66).sz=3 from rfl,Nat.mul_one,Nat.add_zero] at hx12_2);have hf12_2:=hfr12 2;(try simp only [show (k66).sz=3 from rfl,Nat.mul_one,Nat.add_zero] at hf12_2);clear hcl12 hcc12 hfr12 hM12)|((with_reducible refine gate_store (t:=66) (p:=21) rfl ?_);refine store_event (t:=66) (p:=21) (v:=?vo_w13) (w1:=(((w11.setCell ⟨go10,(A1:Int).toNat * 3,none⟩ (.bool A4)).setCell ⟨go10,(A1:Int).toNat * 3 + 1,none⟩ (.int .i64 A5)).setCell ⟨go10,(A1:Int).toNat * 3 + 2,none⟩ (.int .i64 A6))) ?hg ?ho ?hn ?hr ?_;(case ho=>rfl);(case hg=>rfl);(case hn=>rfl);(case hr=>first|(go_simp;done)|(go_simp;rfl));intro w13 hw;have hg:w11.grownBy w13 (some go10):=(by rw [hw];exact HP12.2);have hp_:Kd.R k66 66 w13 w.heap.size (fun _=>True) (.slice (some ⟨go10,0,none⟩) A2.length A9) y108:=(by rw [hw,Ny108.out];exact HP12.1);clear HP12;replace A3:=Aside0.mk (hp_);replace HB:=Aside0.mk ((by rw [hw];exact below_set (below_set (below_set (HB.out) GB10.out) GB10.out) GB10.out:Below w.heap.size w w13));clear hg hw hp_))
        go_roundg k1
        case measure=>have:=HK1.out;omega
        case rel=>exact ⟨(y108),(wrap64 (A1 + 1)),(by first|rfl|(simp;done)|(simp [*];done)),H',⟨by have:=HK1.out;omega⟩,⟨ra A3⟩,⟨by exact tb HB⟩⟩
       ·rw [if_neg c9] at H;exact absurd H (by simp)
      ·rw [if_neg c7] at H;exact absurd H (by simp)
     ·rw [if_neg c6] at H;have c6b0:decide (A1 < (l0.length:Int))=false:=decide_eq_false c6;clear c6;obtain rfl:=os H;go_wp2;go_ret;exact ⟨_,er,ra A3,tb HB⟩
  ·rw [if_neg c3] at H;exact absurd H (by simp)
 ·rw [if_neg c2] at H;exact absurd H (by simp)
def spec_l01In.f (a0:Int) (a1:Int) (a2:Int):Option (Bool):=if a0 ≥ a1 then (some (decide (a0≤a2))) else (some false)
set_option maxHeartbeats 8000000 in
set_option maxRecDepth 100000 in
theorem spec_l01In.calls (a0:Int) (a1:Int) (a2:Int) (r:Bool) (w:World) (h:spec_l01In.f a0 a1 a2=some r) :
  Calls Try.prog 69 #[.int .i64 a0,.int .i64 a1,.int .i64 a2] w fun e w'=>e = .returned (.bool r)∧Drawn0 w w':=by
 have H:(if a0 ≥ a1 then (some (decide (a0≤a2))) else (some false))=some r:=h;clear h
 by_cases c4:a0 ≥ a1
 ·rw [if_pos c4] at H;have c4b0:decide (a1≤a0)=true:=decide_eq_true c4;clear c4;obtain rfl:=os H
  go_enter Try.func69,Try.ntmps69
  go_wp2;go_ret;exact ⟨e1,dn⟩
 ·rw [if_neg c4] at H;have c4b0:decide (a1≤a0)=false:=decide_eq_false c4;clear c4;obtain rfl:=os H
  go_enter Try.func69,Try.ntmps69
  go_wp2;go_ret;exact ⟨e1,dn⟩
def spec_Parts.j0:Nat→Bool→Int→Int→Int→Int→Int→Int→Option (List Int)
 | 0,_,_,_,_,_,_,_=>none
 | k + 1,x3,x102000,x102001,x102002,x102003,x102004,x102005=>if x3=true then (some (([x102003]:List Int))) else ((spec_l01In.f x102000 3 16).bind fun A8=>(if A8=true then (some (([x102003,x102004]:List Int))) else (if x102000=18 then (some (([x102003,x102004,x102005]:List Int))) else (some (([]:List Int))))))
def spec_Parts.f (k:Nat) (A0:Int) (A5:Int) (A6:Int) (A2:Int) (A3:Int) (A4:Int):Option (List Int):=if A0=2 then (spec_Parts.j0 k true A0 A5 A6 A2 A3 A4) else (if A0=17 then (spec_Parts.j0 k true A0 A5 A6 A2 A3 A4) else (if A0=19 then (spec_Parts.j0 k true A0 A5 A6 A2 A3 A4) else (spec_Parts.j0 k (A0 == 20) A0 A5 A6 A2 A3 A4)))
set_option maxHeartbeats 8000000 in
set_option maxRecDepth 100000 in
theorem spec_Parts.calls (k:Nat) (A0:Int) (A5:Int) (A6:Int) (A2:Int) (A3:Int) (A4:Int) (r:List Int) (w:World) (h:spec_Parts.f k A0 A5 A6 A2 A3 A4=some r) :
  Calls Try.prog 99 #[.agg #[.int .i64 A0,.int .i64 A5,.int .i64 A6,.int .i64 A2,.int .i64 A3,.int .i64 A4]] w fun e w'=>∃ v0_:Value,e = .returned (v0_)∧Kd.R (Kd.int .i64) 3 w' w.heap.size (fun _=>True) v0_ r∧Below w.heap.size w w':=by
 have hu99:=Try.underlying99;have HB:=Aside0.mk (Below.refl w.heap.size w);have H:(if A0=2 then (spec_Parts.j0 k true A0 A5 A6 A2 A3 A4) else (if A0=17 then (spec_Parts.j0 k true A0 A5 A6 A2 A3 A4) else (if A0=19 then (spec_Parts.j0 k true A0 A5 A6 A2 A3 A4) else (spec_Parts.j0 k (A0 == 20) A0 A5 A6 A2 A3 A4))))=some r:=h;clear h;have HC2:=Aside0.mk H;clear H
 go_enter Try.func99,Try.ntmps99
 go_upto_region 1 with (first|((with_reducible refine gate_dst (N:=1) rfl ?_);refine bx (N:=1) (cs:=#[.int .i64 A0,.int .i64 A5,.int .i64 A6,.int .i64 A2,.int .i64 A3,.int .i64 A4]) (t:=99) ?_;intro A7 hg w3 hbox hb;have A1:=Aside0.mk (hbox);have GW101:=Aside0.mk ((by rw [hg];exact (below_size (tb HB)):w.heap.size≤A7));have GE101:=Aside0.mk ((by rw [hg];exact (below_size (tb HB)):w.heap.size≤A7));replace HB:=Aside0.mk (below_step (tb HB) hb);clear hb hbox hg))
 (try simp only [Act.put,List.setIfInBounds_toArray,List.set_cons_zero,List.set_cons_succ])
 go_cut [3] (fun v3 wc=>∃ (kq:Nat) (A9:Bool),v3 = .bool A9∧Aside0 (spec_Parts.j0 kq A9 A0 A5 A6 A2 A3 A4=some r)∧Aside0 (kq≤k)∧Aside0 (wc.heap[A7]? = some (.cells #[.int .i64 A0,.int .i64 A5,.int .i64 A6,.int .i64 A2,.int .i64 A3,.int .i64 A4] 99 (0,0)))∧Aside0 (Below w.heap.size w wc))
 case first =>
  have H:=HC2.out;clear HC2
  by_cases c4:A0=2
  ·rw [if_pos c4] at H;have c4b0:(A0 == 2)=true:=beq_iff_eq.mpr c4;have c4b1:(A0 != 2)=false:=bne_eq_false_iff_eq.mpr c4;clear c4;(first|rw [c4b0]|(simp only [i64_w,i32_w];rw [c4b0])|skip);have H':=Aside0.mk H;clear H;have hcz5__:=c6_ A1;have hfz5__:=f_ A1;go_wp2;go_meet
   case rel=>exact ⟨_,(true),(by first|rfl|(simp;done)|(simp [*];done)),H',⟨by first|omega|exact Nat.le_refl _⟩,⟨dr A1⟩,⟨by exact tb HB⟩⟩
  ·rw [if_neg c4] at H;have c4b0:(A0 == 2)=false:=beq_eq_false_iff_ne.mpr c4;have c4b1:(A0 != 2)=true:=bne_iff_ne.mpr c4;(first|rw [c4b0]|(simp only [i64_w,i32_w];rw [c4b0])|skip)
   by_cases c6:A0=17
   ·rw [if_pos c6] at H;have c6b0:(A0 == 17)=true:=beq_iff_eq.mpr c6;have c6b1:(A0 != 17)=false:=bne_eq_false_iff_eq.mpr c6;clear c6;have H':=Aside0.mk H;clear H;have hcz7__:=c6_ A1;have hfz7__:=f_ A1;go_wp2;go_meet
    case rel=>exact ⟨_,(true),(by first|rfl|(simp;done)|(simp [*];done)),H',⟨by first|omega|exact Nat.le_refl _⟩,⟨dr A1⟩,⟨by exact tb HB⟩⟩
   ·rw [if_neg c6] at H;have c6b0:(A0 == 17)=false:=beq_eq_false_iff_ne.mpr c6;have c6b1:(A0 != 17)=true:=bne_iff_ne.mpr c6
    by_cases c8:A0=19
    ·rw [if_pos c8] at H;have c8b0:(A0 == 19)=true:=beq_iff_eq.mpr c8;have c8b1:(A0 != 19)=false:=bne_eq_false_iff_eq.mpr c8;clear c8;have H':=Aside0.mk H;clear H;have hcz9__:=c6_ A1;have hfz9__:=f_ A1;go_wp2;go_meet
     case rel=>exact ⟨_,(true),(by first|rfl|(simp;done)|(simp [*];done)),H',⟨by first|omega|exact Nat.le_refl _⟩,⟨dr A1⟩,⟨by exact tb HB⟩⟩
    ·rw [if_neg c8] at H;have c8b0:(A0 == 19)=false:=beq_eq_false_iff_ne.mpr c8;have c8b1:(A0 != 19)=true:=bne_iff_ne.mpr c8;have H':=Aside0.mk H;clear H;have hcz10__:=c6_ A1;have hfz10__:=f_ A1;go_wp2;go_meet
     case rel=>exact ⟨_,((A0 == 20)),(by first|rfl|(simp;done)|(simp [*];done)),H',⟨by first|omega|exact Nat.le_refl _⟩,⟨dr A1⟩,⟨by exact tb HB⟩⟩
 case rest =>
  clear HC2;(try clear p2);(try clear c4);(try clear c4b0);(try clear c4b1);(try clear c6);(try clear c6b0);(try clear c6b1);(try clear c8);(try clear c8b0);(try clear c8b1);(try clear c9);(try clear hcz10__);(try clear hcz5__);(try clear hcz7__);(try clear hcz9__);(try clear hfz10__);(try clear hfz5__);(try clear hfz7__);(try clear hfz9__);obtain ⟨kq,A9,rfl,HA,HJ1,A1,HB⟩:=hcut
  cases kq with
  | zero=>exact absurd HA.out (by simp [spec_Parts.j0])
  | succ kj1 =>
   have H:=HA.out;clear HA;simp only [spec_Parts.j0] at H
   by_cases c11:A9=true
   ·subst c11
    have H1:(some (([A2]:List Int)))=some r:=by rw [if_pos rfl] at H;exact H
    clear H;have H:=H1;clear H1;obtain ⟨y102,hy102⟩:∃ y_:List Int,y_=(([A2]:List Int)):=⟨_,rfl⟩
    replace H:(some y102)=some r:=by first|(rw [hy102];with_reducible exact H)|(have H2_:=(Option.bind_some _ _).symm.trans H;rw [hy102];with_reducible exact H2_)|(have H2_:=(Option.bind_some _ _).symm.trans H;with_reducible exact H2_)|with_reducible exact H|(rw [hy102];exact H)|exact H
    have Ny102:=Aside0.mk hy102;clear hy102;obtain rfl:=os H;have hcz12__:=c6_ A1;have hfz12__:=f_ A1;go_wp2_with (first|((with_reducible refine gate_dst (N:=24) rfl ?_);refine Kd.R_lit (Kd.int .i64) _ 3 ?hg (N:=24) ?hd (xs:=([A2]:List Int)) (inner:=[.int .i64 A2]) (ok:=fun _=>True) (okp:=fun _=>True) ?hr ?hp (fun _ hk=>hk) trivial (Below.refl _ _) (Nat.le_refl _) (by simp) ?_;(case hd=>rfl);(case hg=>rfl);(case hr=>first|(go_simp;done)|(go_simp;rfl));(case hp=>exact (Reps.one (show Kd.M (Kd.int .i64) _ _ _ A2 [.int .i64 A2] from rfl) (Reps.none _ _)));intro v103 w13 ho14 hb hg_ hnew_;clear hg_ hnew_;(first|rw [← Ny102.out] at ho14|(simp only [Int.reduceToNat] at ho14;rw [← Ny102.out] at ho14));have Aa:=Aside0.mk (Kd.R_lower ho14 (below_size (tb HB)));replace A1:=Aside0.mk (blk_below (g:=A7) (o := .cells #[.int .i64 A0,.int .i64 A5,.int .i64 A6,.int .i64 A2,.int .i64 A3,.int .i64 A4] 99 (0,0)) (dr A1) hb);replace HB:=Aside0.mk (below_step (tb HB) hb);clear hb ho14));go_ret;exact ⟨_,er,ra Aa,tb HB⟩
   ·replace c11:=Bool.eq_false_iff.mpr c11;subst c11
    have H1:((spec_l01In.f A0 3 16).bind fun A8=>(if A8=true then (some (([A2,A3]:List Int))) else (if A0=18 then (some (([A2,A3,A4]:List Int))) else (some (([]:List Int))))))=some r:=by rw [if_neg (show ¬ (false=true) by decide)] at H;exact H
    clear H;have H:=H1;clear H1;replace H:=ob H;obtain ⟨A8,A150,H⟩:=H;replace H:(if A8=true then (some (([A2,A3]:List Int))) else (if A0=18 then (some (([A2,A3,A4]:List Int))) else (some (([]:List Int)))))=some r:=H;have A15:=Aside0.mk A150;clear A150
    by_cases c16:A8=true
    ·subst c16
     have H1:(some (([A2,A3]:List Int)))=some r:=by rw [if_pos rfl] at H;exact H
     clear H;have H:=H1;clear H1;obtain ⟨y106,hy106⟩:∃ y_:List Int,y_=(([A2,A3]:List Int)):=⟨_,rfl⟩
     replace H:(some y106)=some r:=by first|(rw [hy106];with_reducible exact H)|(have H2_:=(Option.bind_some _ _).symm.trans H;rw [hy106];with_reducible exact H2_)|(have H2_:=(Option.bind_some _ _).symm.trans H;with_reducible exact H2_)|with_reducible exact H|(rw [hy106];exact H)|exact H
     have Ny106:=Aside0.mk hy106;clear hy106;obtain rfl:=os H;have hcz17__:=c6_ A1;have hfz17__:=f_ A1;go_wp2_with (first|((with_reducible refine gate_callee (f:=69) rfl ?_);refine goesL_ (some 28) rfl rfl Try.func69 (by kernel_rfl) rfl #[.int .i64 A0,.int .i64 3,.int .i64 16] rfl ml ?_;(with_reducible refine (spec_l01In.calls A0 3 16 true _ A15.out).mono ?_);rintro e w' ⟨rfl,⟨nd,rfl⟩⟩;refine ⟨_,rfl,?_⟩)|((with_reducible refine gate_dst (N:=33) rfl ?_);refine Kd.R_lit (Kd.int .i64) _ 3 ?hg (N:=33) ?hd (xs:=([A2,A3]:List Int)) (inner:=[.int .i64 A2,.int .i64 A3]) (ok:=fun _=>True) (okp:=fun _=>True) ?hr ?hp (fun _ hk=>hk) trivial (Below.refl _ _) (Nat.le_refl _) (by simp) ?_;(case hd=>rfl);(case hg=>rfl);(case hr=>first|(go_simp;done)|(go_simp;rfl));(case hp=>exact (Reps.one (show Kd.M (Kd.int .i64) _ _ _ A2 [.int .i64 A2] from rfl) (Reps.one (show Kd.M (Kd.int .i64) _ _ _ A3 [.int .i64 A3] from rfl) (Reps.none _ _))));intro v107 w18 ho19 hb hg_ hnew_;clear hg_ hnew_;(first|rw [← Ny106.out] at ho19|(simp only [Int.reduceToNat] at ho19;rw [← Ny106.out] at ho19));have Ab:=Aside0.mk (Kd.R_lower ho19 (below_size (tb HB)));replace A1:=Aside0.mk (blk_below (g:=A7) (o := .cells #[.int .i64 A0,.int .i64 A5,.int .i64 A6,.int .i64 A2,.int .i64 A3,.int .i64 A4] 99 (0,0)) (dr A1) hb);replace HB:=Aside0.mk (below_step (tb HB) hb);clear hb ho19));go_ret;exact ⟨_,er,ra Ab,tb HB⟩
    ·replace c16:=Bool.eq_false_iff.mpr c16;subst c16
     have H1:(if A0=18 then (some (([A2,A3,A4]:List Int))) else (some (([]:List Int))))=some r:=by rw [if_neg (show ¬ (false=true) by decide)] at H;exact H
     clear H;have H:=H1;clear H1
     by_cases c20:A0=18
     ·rw [if_pos c20] at H;have c20b0:(A0 == 18)=true:=beq_iff_eq.mpr c20;have c20b1:(A0 != 18)=false:=bne_eq_false_iff_eq.mpr c20;clear c20;obtain ⟨y109,hy109⟩:∃ y_:List Int,y_=(([A2,A3,A4]:List Int)):=⟨_,rfl⟩
      replace H:(some y109)=some r:=by first|(rw [hy109];with_reducible exact H)|(have H2_:=(Option.bind_some _ _).symm.trans H;rw [hy109];with_reducible exact H2_)|(have H2_:=(Option.bind_some _ _).symm.trans H;with_reducible exact H2_)|with_reducible exact H|(rw [hy109];exact H)|exact H
      have Ny109:=Aside0.mk hy109;clear hy109;obtain rfl:=os H;have hcz21__:=c6_ A1;have hfz21__:=f_ A1;go_wp2_with (first|((with_reducible refine gate_callee (f:=69) rfl ?_);refine goesL_ (some 28) rfl rfl Try.func69 (by kernel_rfl) rfl #[.int .i64 A0,.int .i64 3,.int .i64 16] rfl ml ?_;(with_reducible refine (spec_l01In.calls A0 3 16 false _ A15.out).mono ?_);rintro e w' ⟨rfl,⟨nd,rfl⟩⟩;refine ⟨_,rfl,?_⟩)|((with_reducible refine gate_dst (N:=44) rfl ?_);refine Kd.R_lit (Kd.int .i64) _ 3 ?hg (N:=44) ?hd (xs:=([A2,A3,A4]:List Int)) (inner:=[.int .i64 A2,.int .i64 A3,.int .i64 A4]) (ok:=fun _=>True) (okp:=fun _=>True) ?hr ?hp (fun _ hk=>hk) trivial (Below.refl _ _) (Nat.le_refl _) (by simp) ?_;(case hd=>rfl);(case hg=>rfl);(case hr=>first|(go_simp;done)|(go_simp;rfl));(case hp=>exact (Reps.one (show Kd.M (Kd.int .i64) _ _ _ A2 [.int .i64 A2] from rfl) (Reps.one (show Kd.M (Kd.int .i64) _ _ _ A3 [.int .i64 A3] from rfl) (Reps.one (show Kd.M (Kd.int .i64) _ _ _ A4 [.int .i64 A4] from rfl) (Reps.none _ _)))));intro v110 w22 ho23 hb hg_ hnew_;clear hg_ hnew_;(first|rw [← Ny109.out] at ho23|(simp only [Int.reduceToNat] at ho23;rw [← Ny109.out] at ho23));have Ac:=Aside0.mk (Kd.R_lower ho23 (below_size (tb HB)));replace A1:=Aside0.mk (blk_below (g:=A7) (o := .cells #[.int .i64 A0,.int .i64 A5,.int .i64 A6,.int .i64 A2,.int .i64 A3,.int .i64 A4] 99 (0,0)) (dr A1) hb);replace HB:=Aside0.mk (below_step (tb HB) hb);clear hb ho23));go_ret;exact ⟨_,er,ra Ac,tb HB⟩
     ·rw [if_neg c20] at H;have c20b0:(A0 == 18)=false:=beq_eq_false_iff_ne.mpr c20;have c20b1:(A0 != 18)=true:=bne_iff_ne.mpr c20;obtain ⟨y112,hy112⟩:∃ y_:List Int,y_=(([]:List Int)):=⟨_,rfl⟩
      replace H:(some y112)=some r:=by first|(rw [hy112];with_reducible exact H)|(have H2_:=(Option.bind_some _ _).symm.trans H;rw [hy112];with_reducible exact H2_)|(have H2_:=(Option.bind_some _ _).symm.trans H;with_reducible exact H2_)|with_reducible exact H|(rw [hy112];exact H)|exact H
      have Ny112:=Aside0.mk hy112;clear hy112;obtain rfl:=os H;have hcz24__:=c6_ A1;have hfz24__:=f_ A1;go_wp2_with (first|((with_reducible refine gate_callee (f:=69) rfl ?_);refine goesL_ (some 28) rfl rfl Try.func69 (by kernel_rfl) rfl #[.int .i64 A0,.int .i64 3,.int .i64 16] rfl ml ?_;(with_reducible refine (spec_l01In.calls A0 3 16 false _ A15.out).mono ?_);rintro e w' ⟨rfl,⟨nd,rfl⟩⟩;refine ⟨_,rfl,?_⟩)|((with_reducible refine gate_dst (N:=45) rfl ?_);refine Kd.R_lit (Kd.int .i64) _ 3 ?hg (N:=45) ?hd (xs:=([]:List Int)) (inner:=[]) (ok:=fun _=>True) (okp:=fun _=>True) ?hr ?hp (fun _ hk=>hk) trivial (Below.refl _ _) (Nat.le_refl _) (by simp) ?_;(case hd=>rfl);(case hg=>rfl);(case hr=>first|(go_simp;done)|(go_simp;rfl));(case hp=>exact (Reps.none _ _));intro v113 w25 ho26 hb hg_ hnew_;clear hg_ hnew_;(first|rw [← Ny112.out] at ho26|(simp only [Int.reduceToNat] at ho26;rw [← Ny112.out] at ho26));have Ad:=Aside0.mk (Kd.R_lower ho26 (below_size (tb HB)));replace A1:=Aside0.mk (blk_below (g:=A7) (o := .cells #[.int .i64 A0,.int .i64 A5,.int .i64 A6,.int .i64 A2,.int .i64 A3,.int .i64 A4] 99 (0,0)) (dr A1) hb);replace HB:=Aside0.mk (below_step (tb HB) hb);clear hb ho26));go_ret;exact ⟨_,er,ra Ad,tb HB⟩
def spec_l01Pow2.l0:Nat→Int→Int→Int→Option (Int)
 | 0,_,_,_=>none
 | k + 1,x0,x3,x4=>if x4 < x0 then (spec_l01Pow2.l0 k x0 (wrap64 (2 * x3)) (wrap64 (x4 + 1))) else (some x3)
def spec_l01Pow2.f (k:Nat) (a0:Int):Option (Int):=spec_l01Pow2.l0 k a0 1 0
set_option maxHeartbeats 8000000 in
set_option maxRecDepth 100000 in
theorem spec_l01Pow2.calls (k:Nat) (a0:Int) (r:Int) (w:World) (h:spec_l01Pow2.f k a0=some r) :
  Calls Try.prog 70 #[.int .i64 a0] w fun e w'=>e = .returned (.int .i64 r)∧Drawn0 w w':=by
 have H:(spec_l01Pow2.l0 k a0 1 0)=some r:=h;clear h;have H':=Aside0.mk H;clear H
 go_enter Try.func70,Try.ntmps70
 go_wp2
 go_loopg [3,4] k (fun kq v3 v4 w'=>∃ (A1:Int) (A0:Int),v3 = .int .i64 A1∧v4 = .int .i64 A0∧Aside0 (spec_l01Pow2.l0 kq a0 A1 A0=some r)∧Aside0 (kq≤k)∧Drawn0 w w')
 case atStart=>exact ⟨(1),(0),(by first|rfl|(simp;done)|(simp [*];done)),(by first|rfl|(simp;done)|(simp [*];done)),H',⟨Nat.le_refl _⟩,by repeat (first|exact Drawn0.refl _|apply Drawn0.step)⟩
 case round =>
  clear H';obtain ⟨A1,A0,rfl,rfl,HA,HK1,⟨m1,rfl⟩⟩:=hrel
  cases gk with
  | zero=>exact absurd HA.out (by simp [spec_l01Pow2.l0])
  | succ k1 =>
   have H:=HA.out;clear HA;simp only [spec_l01Pow2.l0] at H
   by_cases c2:A0 < a0
   ·rw [if_pos c2] at H;have c2b0:decide (A0 < a0)=true:=decide_eq_true c2;clear c2;have H':=Aside0.mk H;clear H;go_wp2;go_roundg k1
    case measure=>have:=HK1.out;omega
    case rel=>exact ⟨(wrap64 (2 * A1)),(wrap64 (A0 + 1)),(by first|rfl|(simp;done)|(simp [*];done)),(by first|rfl|(simp;done)|(simp [*];done)),H',⟨by have:=HK1.out;omega⟩,by repeat (first|exact Drawn0.refl _|apply Drawn0.step)⟩
   ·rw [if_neg c2] at H;have c2b0:decide (A0 < a0)=false:=decide_eq_false c2;clear c2;obtain rfl:=os H;go_wp2;go_ret;exact ⟨e1,dn⟩
def spec_WordOk.f (k:Nat) (a0:Int) (a1:Int):Option (Bool):=(spec_l01In.f a0 1 8).bind fun A2=>(if A2=true then ((spec_l01Pow2.f k a0).bind fun A1=>((spec_l01In.f a1 0 (wrap64 (A1 - 1))).bind fun A0=>(some A0))) else (some false))
set_option maxHeartbeats 8000000 in
set_option maxRecDepth 100000 in
theorem spec_WordOk.calls (k:Nat) (a0:Int) (a1:Int) (r:Bool) (w:World) (h:spec_WordOk.f k a0 a1=some r) :
  Calls Try.prog 131 #[.int .i64 a0,.int .i64 a1] w fun e w'=>e = .returned (.bool r)∧Drawn0 w w':=by
 have H:((spec_l01In.f a0 1 8).bind fun A2=>(if A2=true then ((spec_l01Pow2.f k a0).bind fun A1=>((spec_l01In.f a1 0 (wrap64 (A1 - 1))).bind fun A0=>(some A0))) else (some false)))=some r:=h;clear h;replace H:=ob H;obtain ⟨A2,A30,H⟩:=H;replace H:(if A2=true then ((spec_l01Pow2.f k a0).bind fun A1=>((spec_l01In.f a1 0 (wrap64 (A1 - 1))).bind fun A0=>(some A0))) else (some false))=some r:=H;have A3:=Aside0.mk A30;clear A30
 by_cases c4:A2=true
 ·subst c4
  have H1:((spec_l01Pow2.f k a0).bind fun A1=>((spec_l01In.f a1 0 (wrap64 (A1 - 1))).bind fun A0=>(some A0)))=some r:=by rw [if_pos rfl] at H;exact H
  clear H;have H:=H1;clear H1;replace H:=ob H;obtain ⟨A1,A50,H⟩:=H;replace H:((spec_l01In.f a1 0 (wrap64 (A1 - 1))).bind fun A0=>(some A0))=some r:=H;have A5:=Aside0.mk A50;clear A50;replace H:=ob H;obtain ⟨A0,A60,H⟩:=H;replace H:(some A0)=some r:=H;have A6:=Aside0.mk A60;clear A60;obtain rfl:=os H
  go_enter Try.func131,Try.ntmps131
  go_wp2_with (first|((with_reducible refine gate_callee (f:=69) rfl ?_);refine goesL_ (some 6) rfl rfl Try.func69 (by kernel_rfl) rfl #[.int .i64 a0,.int .i64 1,.int .i64 8] rfl ml ?_;(with_reducible refine (spec_l01In.calls a0 1 8 true _ A3.out).mono ?_);rintro e w' ⟨rfl,⟨nd,rfl⟩⟩;refine ⟨_,rfl,?_⟩)|(go_at_call 70;(try simp only [i64_w,i32_w]);(with_reducible refine (spec_l01Pow2.calls k a0 A1 _ A5.out).mono ?_);rintro e w' ⟨rfl,⟨nd,rfl⟩⟩)|(go_at_call 69;(try simp only [i64_w,i32_w]);(with_reducible refine (spec_l01In.calls a1 0 (wrap64 (A1 - 1)) A0 _ A6.out).mono ?_);rintro e w' ⟨rfl,⟨nd,rfl⟩⟩));go_ret;exact ⟨e1,dn⟩
 ·replace c4:=Bool.eq_false_iff.mpr c4;subst c4
  have H1:(some false)=some r:=by rw [if_neg (show ¬ (false=true) by decide)] at H;exact H
  clear H;have H:=H1;clear H1;obtain rfl:=os H
  go_enter Try.func131,Try.ntmps131
  go_wp2_with (first|((with_reducible refine gate_callee (f:=69) rfl ?_);refine goesL_ (some 6) rfl rfl Try.func69 (by kernel_rfl) rfl #[.int .i64 a0,.int .i64 1,.int .i64 8] rfl ml ?_;(with_reducible refine (spec_l01In.calls a0 1 8 false _ A3.out).mono ?_);rintro e w' ⟨rfl,⟨nd,rfl⟩⟩;refine ⟨_,rfl,?_⟩));go_ret;exact ⟨e1,dn⟩
end Go.Proofs.Ythipjoioicmcnaa.G
