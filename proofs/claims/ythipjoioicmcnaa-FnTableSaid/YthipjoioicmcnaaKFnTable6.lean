-- texts of this session, merged by a program of it (wip/gen/pack.py)
import Derived.Test.YthipjoioicmcnaaKFnTable2
import Derived.Test.YthipjoioicmcnaaKFnTable5
set_option linter.unusedVariables false
set_option linter.unusedSimpArgs false
set_option maxHeartbeats 80000000
set_option maxRecDepth 100000
namespace Go.Proofs.Ythipjoioicmcnaa.G
open Go.RowKit Go.Proofs.YthipjoioicmcnaaW.PrintWords Go.Proofs.YthipjoioicmcnaaW.PrintLast Go.Proofs.YthipjoioicmcnaaW.PrintMore Go.Proofs.Ythipjoioicmcnaa.Sh
attribute [local go_sem] eS eR fI fJ eI eJ eU eT
def cE (w0 W:World) (g:Nat) (f0:List Int) (f1:Int) (f2:Int):Prop:=∃ A0 c0,W.heap[g]? = some (.cells #[.slice A0 f0.length c0,.int .i64 f1,.int .i64 f2] 121 (0,0))∧w0.heap.size≤g∧Kd.C (Kd.int .u8) w0 A0 f0.length f0
theorem cE.grown {w0 W:World} {g:Nat} {f0:List Int} {f1:Int} {f2:Int} {W1:World} {row:Option Nat} (h:cE w0 W g f0 f1 f2) (hw:W.grownBy W1 row) (hne:some g≠row):cE w0 W1 g f0 f1 f2:=by
 obtain ⟨A0,c0,hb,hg,hr0⟩:=h;exact ⟨A0,c0,dO hb hw hne,hg,hr0⟩
theorem cE.fresh {w0 W:World} {g:Nat} {f0:List Int} {f1:Int} {f2:Int} (h:cE w0 W g f0 f1 f2):∀ k,W.heap.size≤k→k≠g:=by
 obtain ⟨A0,c0,hb,hg,hr0⟩:=h;exact Kd.freshB hb
theorem cE.kept {w0 W:World} {g:Nat} {f0:List Int} {f1:Int} {f2:Int} {W1:World} {S:Nat→Prop} (h:cE w0 W g f0 f1 f2) (hk:eC W W1 S) (hne:¬ S g):cE w0 W1 g f0 f1 f2:=by
 obtain ⟨A0,c0,hb,hg,hr0⟩:=h;exact ⟨A0,c0,qW hb hk hne,hg,hr0⟩
theorem cE.below {w0 W:World} {g:Nat} {f0:List Int} {f1:Int} {f2:Int} {W1:World} (h:cE w0 W g f0 f1 f2) (hw:Below W.heap.size W W1):cE w0 W1 g f0 f1 f2:=h.grown (kL hw none) (by simp)
theorem cE.alloc {w0 W:World} {g:Nat} {f0:List Int} {f1:Int} {f2:Int} (h:cE w0 W g f0 f1 f2) (o:Obj):cE w0 (W.alloc o) g f0 f1 f2:=h.below (bS (Below.refl _ _) o)
theorem cE.drewN {w0 W:World} {g:Nat} {f0:List Int} {f1:Int} {f2:Int} (h:cE w0 W g f0 f1 f2) (m:Nat):cE w0 (W.drewN m) g f0 f1 f2:=h
theorem cE.drew {w0 W:World} {g:Nat} {f0:List Int} {f1:Int} {f2:Int} (h:cE w0 W g f0 f1 f2):cE w0 W.drew g f0 f1 f2:=h
theorem cE.at_ {w0 W:World} {g:Nat} {f0:List Int} {f1:Int} {f2:Int} {w':World} {m:Nat} (hq:W.drewN m=w') (h:cE w0 W g f0 f1 f2):cE w0 w' g f0 f1 f2:=by subst hq;exact cE.drewN h m
theorem cE.apart {w0 W:World} {g:Nat} {f0:List Int} {f1:Int} {f2:Int} {α:Type} {d:Kd α} {e:Nat} {base:Nat} {ok:Nat→Prop} {v:Value} {xs:List α} (h:cE w0 W g f0 f1 f2) (ho:d.R e W base ok v xs) (ht:∀ q,q∈e :: d.E→q≠121):d.R e W base (fun k=>ok k∧k≠g) v xs:=by
 obtain ⟨A0,c0,hb,hg,hr0⟩:=h;exact Kd.R_types ho hb ht
theorem cE.own_ne {w0 W:World} {g:Nat} {f0:List Int} {f1:Int} {f2:Int} {α:Type} {d:Kd α} {e:Nat} {base:Nat} {ok:Nat→Prop} {v:Value} {xs:List α} (h:cE w0 W g f0 f1 f2) (ho:d.R e W base ok v xs) (ht:e≠121):some g≠v.ownBlock:=by
 obtain ⟨A0,c0,hb,hg,hr0⟩:=h;exact Kd.R_ne ho hb ht
theorem cE.lt {w0 W:World} {g:Nat} {f0:List Int} {f1:Int} {f2:Int} (h:cE w0 W g f0 f1 f2):g < W.heap.size:=by
 obtain ⟨A0,c0,hb,hg,hr0⟩:=h;exact gA hb
theorem cE.ge {w0 W:World} {g:Nat} {f0:List Int} {f1:Int} {f2:Int} (h:cE w0 W g f0 f1 f2):w0.heap.size≤g:=by
 obtain ⟨A0,c0,hb,hg,hr0⟩:=h;exact hg
theorem cE.far {w0 W:World} {g:Nat} {f0:List Int} {f1:Int} {f2:Int} {p:Addr} (h:cE w0 W g f0 f1 f2) (hne:g≠p.block) (u:Value):cE w0 (W.setCell p u) g f0 f1 f2:=by
 obtain ⟨A0,c0,hb,hg,hr0⟩:=h;exact ⟨A0,c0,dR hb hne u,hg,hr0⟩
theorem nH {W:World} {g:Nat} {A0:Option Addr} {c0:Nat} {f0:List Int} {f1:Int} {f2:Int} (h:W.heap[g]? = some (.cells #[.slice A0 f0.length c0,.int .i64 f1,.int .i64 f2] 121 (0,0))):W.cell? ⟨g,0,none⟩=some (.slice A0 f0.length c0):=(aG h 0).trans rfl
theorem nP {W:World} {g:Nat} {A0:Option Addr} {c0:Nat} {f0:List Int} {f1:Int} {f2:Int} (h:W.heap[g]? = some (.cells #[.slice A0 f0.length c0,.int .i64 f1,.int .i64 f2] 121 (0,0))):W.cell? ⟨g,1,none⟩=some (.int .i64 f1):=(aG h 1).trans rfl
theorem cE.set_1 {w0 W:World} {g:Nat} {f0:List Int} {f1:Int} {f2:Int} (h:cE w0 W g f0 f1 f2) (x:Int):cE w0 (W.setCell ⟨g,1,none⟩ (.int .i64 x)) g f0 x f2:=by
 obtain ⟨A0,c0,hb,hg,hr0⟩:=h;exact ⟨A0,c0,by simpa using qD hb 1 (.int .i64 x),hg,hr0⟩
theorem nV {W:World} {g:Nat} {A0:Option Addr} {c0:Nat} {f0:List Int} {f1:Int} {f2:Int} (h:W.heap[g]? = some (.cells #[.slice A0 f0.length c0,.int .i64 f1,.int .i64 f2] 121 (0,0))):W.cell? ⟨g,2,none⟩=some (.int .i64 f2):=(aG h 2).trans rfl
theorem cE.set_2 {w0 W:World} {g:Nat} {f0:List Int} {f1:Int} {f2:Int} (h:cE w0 W g f0 f1 f2) (x:Int):cE w0 (W.setCell ⟨g,2,none⟩ (.int .i64 x)) g f0 f1 x:=by
 obtain ⟨A0,c0,hb,hg,hr0⟩:=h;exact ⟨A0,c0,by simpa using qD hb 2 (.int .i64 x),hg,hr0⟩
def dW.l0:Nat→List Int→Int→Int→Option (List Int × Int × Int)
 | 0,_,_,_=>none
 | k + 1,x0,x3,x4=>if x4 < (x0.length:Int) then (if x4 < 4000 then (if 0≤x4 then (dW.l0 k x0 (Go.bits .and .i64 (wrap64 ((wrap64 ((wrap64 (x3 * 131)) + (wrap64 (rd x0 x4)))) + 7)) 1073741823) (wrap64 (x4 + 1))) else (none)) else (some (x0,0,x3))) else (some (x0,0,x3))
def dW.f (k:Nat) (l0:List Int):Option (List Int × Int × Int):=dW.l0 k l0 (wrap64 (118118 + (l0.length:Int))) 0
theorem dW.calls (k:Nat) (A0:Option Addr) (c0:Nat) (l0:List Int) (r1:List Int) (r2:Int) (r3:Int) (w0 w:World) (hB:Below w0.heap.size w0 w) (hr0:Kd.C (Kd.int .u8) w0 A0 l0.length l0) (hc0:l0.length≤c0) (h:dW.f k l0=some (r1,r2,r3)) :
  Calls Try.prog 54 #[.slice A0 l0.length c0] w fun e w'=>∃ g_:Nat,e = .returned (.pointer (some ⟨g_,0,none⟩))∧cE w0 w' g_ r1 r2 r3∧Below w0.heap.size w0 w'∧Below w.heap.size w w':=by
 have hu121:=Try.underlying121;have HR0:=aA.mk hr0;have HC0:=aA.mk hc0;clear hr0 hc0;have HBW:=aA.mk (Below.refl w.heap.size w);have HW0:=aA.mk hB.size;have HB:=aA.mk hB;clear hB;have H:(dW.l0 k l0 (wrap64 (118118 + (l0.length:Int))) 0)=some (r1,r2,r3):=h;clear h;have H':=aA.mk H;clear H
 go_enter Try.func54,Try.ntmps54
 go_wp2
 go_loopg [3,4] k (fun kq v3 v4 w'=>∃ (A2:Int) (A1:Int),v3 = .int .i64 A2∧v4 = .int .i64 A1∧aA (dW.l0 kq l0 A2 A1=some (r1,r2,r3))∧aA (kq≤k)∧aA (Below w0.heap.size w0 w')∧aA (Below w.heap.size w w'))
 case atStart=>exact ⟨(wrap64 (118118 + (l0.length:Int))),(0),(by first|rfl|(simp;done)|(simp [*];done)),(by first|rfl|(simp;done)|(simp [*];done)),H',⟨Nat.le_refl _⟩,⟨by exact tb HB⟩,⟨by repeat (first|(with_reducible first|exact HBW.out|apply bS|apply aV|apply bQ)|exact HBW.out)⟩⟩
 case round =>
  clear H';obtain ⟨A2,A1,rfl,rfl,HA,HK1,HB,HBW⟩:=hrel
  cases gk with
  | zero=>exact absurd HA.out (by simp [dW.l0])
  | succ k1 =>
   have H:=HA.out;clear HA;simp only [dW.l0] at H
   by_cases c2:A1 < (l0.length:Int)
   ·rw [if_pos c2] at H;have c2b0:decide (A1 < (l0.length:Int))=true:=decide_eq_true c2;clear c2
    by_cases c3:A1 < 4000
    ·rw [if_pos c3] at H;have c3b0:decide (A1 < 4000)=true:=decide_eq_true c3;clear c3
     by_cases c4:0≤A1
     ·rw [if_pos c4] at H;have c4b0:decide (0≤A1)=true:=decide_eq_true c4;clear c4;have H':=aA.mk H;clear H;have p101:0≤(A1:Int):=od;have q101:A1 < (l0.length:Int):=od;obtain ⟨ad101,e101,hx101_0⟩:=Kd.at_int HR0.out A1 p101 q101;cases e101;replace hx101_0:=hL HB.out hx101_0;replace p101:=eq_true p101;replace q101:=eq_true q101;go_wp2;go_roundg k1
      case measure=>have:=HK1.out;omega
      case rel=>exact ⟨(Go.bits .and .i64 (wrap64 ((wrap64 ((wrap64 (A2 * 131)) + (wrap64 (rd l0 A1)))) + 7)) 1073741823),(wrap64 (A1 + 1)),(by first|rfl|(simp;done)|(simp [*];done)),(by first|rfl|(simp;done)|(simp [*];done)),H',⟨by have:=HK1.out;omega⟩,⟨by exact tb HB⟩,⟨by repeat (first|(with_reducible first|exact HBW.out|apply bS|apply aV|apply bQ)|exact HBW.out)⟩⟩
     ·rw [if_neg c4] at H;exact absurd H (by simp)
    ·rw [if_neg c3] at H;have c3b0:decide (A1 < 4000)=false:=decide_eq_false c3;clear c3;simp only [Option.some.injEq,Prod.mk.injEq] at H;obtain ⟨rfl,rfl,rfl⟩:=H;go_wp2_with (first|((with_reducible refine bM (N:=31) rfl ?_);refine bx (N:=31) (cs:=#[.slice A0 l0.length c0,.int .i64 0,.int .i64 A2]) (t:=121) ?_;intro A3 hg w5 hbox hb;replace HB:=aA.mk (aE (tb HB) hb);have A5:=aA.mk (hbox);have A6:=aA.mk ((by rw [hg];exact (aM (by repeat (first|(with_reducible first|exact HBW.out|apply bS|apply aV|apply bQ)|exact HBW.out))):w.heap.size≤A3));have A7:=aA.mk ((Nat.le_trans HW0.out (by rw [hg];exact (aM (by repeat (first|(with_reducible first|exact HBW.out|apply bS|apply aV|apply bQ)|exact HBW.out))):w.heap.size≤A3):w0.heap.size≤A3));replace HBW:=aA.mk (aE HBW.out hb);clear hb hbox hg));go_ret;exact ⟨_,rfl,(show cE w0 _ A3 l0 0 A2 from ⟨_,_,dr A5,A7.out,HR0.out⟩),tb HB,by repeat (first|(with_reducible first|exact HBW.out|apply bS|apply aV|apply bQ|refine aZ ?_ A6.out)|exact HBW.out)⟩
   ·rw [if_neg c2] at H;have c2b0:decide (A1 < (l0.length:Int))=false:=decide_eq_false c2;clear c2;simp only [Option.some.injEq,Prod.mk.injEq] at H;obtain ⟨rfl,rfl,rfl⟩:=H;go_wp2_with (first|((with_reducible refine bM (N:=31) rfl ?_);refine bx (N:=31) (cs:=#[.slice A0 l0.length c0,.int .i64 0,.int .i64 A2]) (t:=121) ?_;intro A4 hg w6 hbox hb;replace HB:=aA.mk (aE (tb HB) hb);have A8:=aA.mk (hbox);have A9:=aA.mk ((by rw [hg];exact (aM (by repeat (first|(with_reducible first|exact HBW.out|apply bS|apply aV|apply bQ)|exact HBW.out))):w.heap.size≤A4));have Aa:=aA.mk ((Nat.le_trans HW0.out (by rw [hg];exact (aM (by repeat (first|(with_reducible first|exact HBW.out|apply bS|apply aV|apply bQ)|exact HBW.out))):w.heap.size≤A4):w0.heap.size≤A4));replace HBW:=aA.mk (aE HBW.out hb);clear hb hbox hg));go_ret;exact ⟨_,rfl,(show cE w0 _ A4 l0 0 A2 from ⟨_,_,dr A8,Aa.out,HR0.out⟩),tb HB,by repeat (first|(with_reducible first|exact HBW.out|apply bS|apply aV|apply bQ|refine aZ ?_ A9.out)|exact HBW.out)⟩
theorem fO {w0 W0 W:World} {g:Nat} {f0:List Int} {f1:Int} {f2:Int} {f0_:List Int} {f1_:Int} {f2_:Int} (hi:aA (cE w0 W0 g f0 f1 f2)) (h:cE w0 W0 g f0 f1 f2→cE w0 W g f0_ f1_ f2_:=by intro h_;repeat (first|(with_reducible first|exact h_|apply cE.alloc|apply cE.drewN|apply cE.drew|apply cE.set_1|apply cE.set_2|refine cE.far ?_ (aA.out (by assumption)) _)|exact h_)):cE w0 W g f0_ f1_ f2_:=h hi.out
theorem fG {w0 w W W1 W2:World} {g:Nat} {f0:List Int} {f1:Int} {f2:Int} (hb:aA (Below w0.heap.size w W)) (hi:aA (cE w0 W2 g f0 f1 f2)) (h:w0.heap.size≤g→Below w0.heap.size w W→Below w0.heap.size w W1:=by intro g_ h_;repeat (first|(with_reducible first|exact h_|apply bS|apply aV|apply bQ|refine aZ ?_ g_|refine aZ ?_ (aA.out (by assumption)))|exact h_)):Below w0.heap.size w W1:=h hi.out.ge hb.out
def bR.f (a0:Int):Option (Bool):=if a0=19 then (some true) else (some (a0 == 20))
theorem bR.calls (a0:Int) (r:Bool) (w:World) (h:bR.f a0=some r) :
  Calls Try.prog 103 #[.int .i64 a0] w fun e w'=>e = .returned (.bool r)∧bT w w':=by
 have H:(if a0=19 then (some true) else (some (a0 == 20)))=some r:=h;clear h
 by_cases c2:a0=19
 ·rw [if_pos c2] at H;have c2b0:(a0 == 19)=true:=beq_iff_eq.mpr c2;have c2b1:(a0 != 19)=false:=bne_eq_false_iff_eq.mpr c2;clear c2;obtain rfl:=os H
  go_enter Try.func103,Try.ntmps103
  go_wp2;go_ret;exact ⟨e1,dn⟩
 ·rw [if_neg c2] at H;have c2b0:(a0 == 19)=false:=beq_eq_false_iff_ne.mpr c2;have c2b1:(a0 != 19)=true:=bne_iff_ne.mpr c2;obtain rfl:=os H
  go_enter Try.func103,Try.ntmps103
  go_wp2;go_ret;exact ⟨e1,dn⟩
def hY.f (a0:Int):Option (Bool):=if a0=2 then (some true) else (if a0=3 then (some true) else (if a0=4 then (some true) else ((bR.f a0).bind fun A0=>(some A0))))
theorem hY.calls (a0:Int) (r:Bool) (w:World) (h:hY.f a0=some r) :
  Calls Try.prog 129 #[.int .i64 a0] w fun e w'=>e = .returned (.bool r)∧bT w w':=by
 have H:(if a0=2 then (some true) else (if a0=3 then (some true) else (if a0=4 then (some true) else ((bR.f a0).bind fun A0=>(some A0)))))=some r:=h;clear h
 by_cases c2:a0=2
 ·rw [if_pos c2] at H;have c2b0:(a0 == 2)=true:=beq_iff_eq.mpr c2;have c2b1:(a0 != 2)=false:=bne_eq_false_iff_eq.mpr c2;clear c2;obtain rfl:=os H
  go_enter Try.func129,Try.ntmps129
  go_wp2;go_ret;exact ⟨e1,dn⟩
 ·rw [if_neg c2] at H;have c2b0:(a0 == 2)=false:=beq_eq_false_iff_ne.mpr c2;have c2b1:(a0 != 2)=true:=bne_iff_ne.mpr c2
  by_cases c3:a0=3
  ·rw [if_pos c3] at H;have c3b0:(a0 == 3)=true:=beq_iff_eq.mpr c3;have c3b1:(a0 != 3)=false:=bne_eq_false_iff_eq.mpr c3;clear c3;obtain rfl:=os H
   go_enter Try.func129,Try.ntmps129
   go_wp2;go_ret;exact ⟨e1,dn⟩
  ·rw [if_neg c3] at H;have c3b0:(a0 == 3)=false:=beq_eq_false_iff_ne.mpr c3;have c3b1:(a0 != 3)=true:=bne_iff_ne.mpr c3
   by_cases c4:a0=4
   ·rw [if_pos c4] at H;have c4b0:(a0 == 4)=true:=beq_iff_eq.mpr c4;have c4b1:(a0 != 4)=false:=bne_eq_false_iff_eq.mpr c4;clear c4;obtain rfl:=os H
    go_enter Try.func129,Try.ntmps129
    go_wp2;go_ret;exact ⟨e1,dn⟩
   ·rw [if_neg c4] at H;have c4b0:(a0 == 4)=false:=beq_eq_false_iff_ne.mpr c4;have c4b1:(a0 != 4)=true:=bne_iff_ne.mpr c4;replace H:=ob H;obtain ⟨A0,A50,H⟩:=H;replace H:(some A0)=some r:=H;have A5:=aA.mk A50;clear A50;obtain rfl:=os H
    go_enter Try.func129,Try.ntmps129
    go_wp2_with (first|(go_at_call 103;(try simp only [aJ,aK]);(with_reducible refine (bR.calls a0 A0 _ A5.out).mono ?_);rintro e w' ⟨rfl,⟨nd,rfl⟩⟩));go_ret;exact ⟨e1,dn⟩
end Go.Proofs.Ythipjoioicmcnaa.G
namespace Go.Proofs.Ythipjoioicmcnaa.G
open Go.Proofs.Ythipjoioicmcnaa.Sh Go.RowKit Go.Proofs.YthipjoioicmcnaaW.PrintWords Go.Proofs.YthipjoioicmcnaaW.PrintLast Go.Proofs.YthipjoioicmcnaaW.PrintMore
theorem kZ {w W:World} {p:Addr} {v:Value} (hb:aA (Below w.heap.size w W)) (h:w.cell? p=some v):W.cell? p=some v:=(hb.out.cell (World.block_lt_of_cell? w _ h)).trans h
theorem vQ {a b:Bool} (h:¬ (a=true∧b=true)):a=false∨(a=true∧b=false):=by cases a <;> cases b <;> simp_all
def oY (x a b:Int):Bool:=decide (a≤x∧x≤b)
theorem zU (x a b:Int):bD.f x a b=some (oY x a b):=by
 unfold bD.f oY
 by_cases h:x ≥ a
 ·rw [if_pos h]
  simp [h]
 ·rw [if_neg h]
  have:¬ a≤x:=h
  simp [this]
theorem qO (x a b:Int) (w:World):Calls Try.prog 69 #[.int .i64 x,.int .i64 a,.int .i64 b] w fun e w'=>e = .returned (.bool (oY x a b))∧bT w w':=bD.calls x a b _ w (zU x a b)
theorem ns6 {t g:Nat} {w W:World} {x0 x1 x2 x3 x4 x5:Value} (h:aA (W.heap[g]? = some (.cells #[x0,x1,x2,x3,x4,x5] t (0,0)))) (hb:aA (Below w.heap.size w W)) (hg:aA (w.heap.size≤g)) (u0 u1 u2 u3 u4 u5:Value) :
  ∃ W',((((((W.setCell ⟨g,0,none⟩ u0).setCell ⟨g,1,none⟩ u1).setCell ⟨g,2,none⟩ u2).setCell ⟨g,3,none⟩ u3).setCell ⟨g,4,none⟩ u4).setCell ⟨g,5,none⟩ u5)=W'∧aA (W'.heap[g]? = some (.cells #[u0,u1,u2,u3,u4,u5] t (0,0)))∧aA (Below w.heap.size w W')∧aA (eC W W' (fun k=>k=g)):=by
 have h1:=bF (cs:=#[x0,x1,x2,x3,x4,x5]) (cs':=#[u0,x1,x2,x3,x4,x5]) h.out 0 u0 rfl
 have h2:=bF (cs:=#[u0,x1,x2,x3,x4,x5]) (cs':=#[u0,u1,x2,x3,x4,x5]) h1 1 u1 rfl
 have h3:=bF (cs:=#[u0,u1,x2,x3,x4,x5]) (cs':=#[u0,u1,u2,x3,x4,x5]) h2 2 u2 rfl
 have h4:=bF (cs:=#[u0,u1,u2,x3,x4,x5]) (cs':=#[u0,u1,u2,u3,x4,x5]) h3 3 u3 rfl
 have h5:=bF (cs:=#[u0,u1,u2,u3,x4,x5]) (cs':=#[u0,u1,u2,u3,u4,x5]) h4 4 u4 rfl
 have h6:=bF (cs:=#[u0,u1,u2,u3,u4,x5]) (cs':=#[u0,u1,u2,u3,u4,u5]) h5 5 u5 rfl
 have k6:=((((((eC.refl W (fun k=>k=g)).setCell (p:=⟨g,0,none⟩) (Or.inl rfl) u0).setCell (p:=⟨g,1,none⟩) (Or.inl rfl) u1).setCell (p:=⟨g,2,none⟩) (Or.inl rfl) u2).setCell (p:=⟨g,3,none⟩) (Or.inl rfl) u3).setCell (p:=⟨g,4,none⟩) (Or.inl rfl) u4).setCell (p:=⟨g,5,none⟩) (Or.inl rfl) u5
 have b6:=aZ (j:=5) (v:=u5) (aZ (j:=4) (v:=u4) (aZ (j:=3) (v:=u3) (aZ (j:=2) (v:=u2) (aZ (j:=1) (v:=u1) (aZ (j:=0) (v:=u0) hb.out hg.out) hg.out) hg.out) hg.out) hg.out) hg.out
 exact ⟨_,rfl,⟨h6⟩,⟨b6⟩,⟨k6⟩⟩
theorem oV {w:World} {g:Nat} {t:TypeId} {x0 x1 x2 x3 x4 x5:Value} (h:aA (w.heap[g]? = some (.cells #[x0,x1,x2,x3,x4,x5] t (0,0)))):w.cell? ⟨g,0,none⟩=some x0∧w.cell? ⟨g,1,none⟩=some x1∧w.cell? ⟨g,2,none⟩=some x2∧w.cell? ⟨g,3,none⟩=some x3∧w.cell? ⟨g,4,none⟩=some x4∧w.cell? ⟨g,5,none⟩=some x5 :=
 ⟨(aG h.out 0).trans rfl,(aG h.out 1).trans rfl,(aG h.out 2).trans rfl,(aG h.out 3).trans rfl,(aG h.out 4).trans rfl,(aG h.out 5).trans rfl⟩
theorem xQ {w:World} {g:Nat} {t:TypeId} {cs:Array Value} (h:aA (w.heap[g]? = some (.cells cs t (0,0)))) (i:Nat):w.frozen? ⟨g,i,none⟩=false:=aW h.out i
section
variable {P:Program} {ops:Array Oper} {Q:Exit→Act→World→Prop} {md:Region.Mode} {S:World→Prop} {ds:List Nat}
abbrev tF (k m:Nat):Array Bool:=(List.replicate k true ++ List.replicate m false).toArray
theorem oR {k m:Nat} {N:Tmp} {oi:Oper} {v:Value} {fuel:Nat} {a:Act} {w:World} (hi:ops[k]? = some oi) (hN:oi.dst=some N) (hc:sR md ops (tF k (m + 1)) (tF (k + 1) m) k=true)
  (hQ:∀ c a w,Q (.panic c) (a.put oi.dst v) w→Q (.panic c) a w) (hy:Yields P ops oi v a) {a':Act} (ha:a.put (some N) v=a') (h:cB P md ops Q S ds fuel (tF (k + 1) m) a' w):cB P md ops Q S ds (fuel + 1) (tF k (m + 1)) a w:=fU _ hi hN hc hQ hy ha h
theorem wV {k m:Nat} {N:Tmp} {oi:Oper} {v:Value} {fuel:Nat} {a:Act} {w:World} (hi:ops[k]? = some oi) (hN:oi.dst=some N) (hc:nG md ops ds (tF k (m + 1)) (tF (k + 1) m) k=true)
  (hQ:∀ c a w,Q (.panic c) (a.put oi.dst v) w→Q (.panic c) a w) (hy:YieldsIf P ops S oi v a) (hS:S w) {a':Act} (ha:a.put (some N) v=a') (h:cB P md ops Q S ds fuel (tF (k + 1) m) a' w):cB P md ops Q S ds (fuel + 1) (tF k (m + 1)) a w:=take_ _ hi hN hc hQ hy hS ha h
theorem wO {k:Nat} {oi:Oper} {fuel:Nat} {a:Act} {w:World} (hi:ops[k]? = some oi) (hN:oi.dst=none) (hc:lF md ops (tF k 1) (tF (k + 1) 0) k=true) (hd:k∈ds) (hw:Region.wanted oi (yielded ops a.tmps)=true) {w1:World} (hrun:(execOp a.eval oi).run P w = .ok .skip w1) (he:(Region.ready md ops (tF (k + 1) 0) == [])=true) (h:Q .normal a w1):cB P md ops Q S ds (fuel + 1) (tF k 1) a w :=
 rK _ hi hN hc hd (fun K hK=>lM hw hN hrun (hK.out _ _ (gG he h)))
end
theorem ns3 {t g:Nat} {w W:World} {x0 x1 x2:Value} (h:aA (W.heap[g]? = some (.cells #[x0,x1,x2] t (0,0)))) (hb:aA (Below w.heap.size w W)) (hg:aA (w.heap.size≤g)) (u0 u1 u2:Value) :
  ∃ W',(((W.setCell ⟨g,0,none⟩ u0).setCell ⟨g,1,none⟩ u1).setCell ⟨g,2,none⟩ u2)=W'∧aA (W'.heap[g]? = some (.cells #[u0,u1,u2] t (0,0)))∧aA (Below w.heap.size w W') :=
 ⟨_,rfl,⟨bp3 h.out⟩,⟨aZ (aZ (aZ hb.out hg.out) hg.out) hg.out⟩⟩
theorem cc3 {w:World} {g:Nat} {t:TypeId} {x0 x1 x2:Value} (h:aA (w.heap[g]? = some (.cells #[x0,x1,x2] t (0,0)))):w.cell? ⟨g,0,none⟩=some x0∧w.cell? ⟨g,1,none⟩=some x1∧w.cell? ⟨g,2,none⟩=some x2 :=
 ⟨(aG h.out 0).trans rfl,(aG h.out 1).trans rfl,(aG h.out 2).trans rfl⟩
def xW (o:Int):Bool:=if o=19 then true else o == 20
theorem quC (o:Int) (w:World):Calls Try.prog 103 #[.int .i64 o] w fun e w'=>e = .returned (.bool (xW o))∧bT w w':=bR.calls o _ w (by unfold bR.f xW;split <;> rfl)
def uR (o:Int):Bool:=if o=2 then true else if o=3 then true else if o=4 then true else xW o
theorem sQ (o:Int) (w:World):Calls Try.prog 129 #[.int .i64 o] w fun e w'=>e = .returned (.bool (uR o))∧bT w w':=hY.calls o _ w (by unfold hY.f uR xW bR.f;repeat' split <;> simp_all)
structure lZ (w0 w W:World) (g:Nat) (s:List Int) (p q:Int) (P:Nat→Prop) (u:Value) (l:List bN):Prop where
 I:cE w0 W g s p q
 B:Below w0.heap.size w0 W
 T:Kd.R eV 99 W w0.heap.size (fun k=>(P k∨w.heap.size≤k)∧k≠g) u l
 K:eC w W (fun k=>P k∨k=g)
section
variable {w0 w W W':World} {g:Nat} {s:List Int} {p q p' q':Int} {P:Nat→Prop} {u v:Value} {l l':List bN}
theorem lZ.cur (h:lZ w0 w W g s p q P u l) (hi:cE w0 W' g s p' q') (hb:Below w0.heap.size w0 W') (hk:cF W W' g none):lZ w0 w W' g s p' q' P u l :=
 ⟨hi,hb,Kd.R_keep h.T hk (fun _ hk=>hk.2),eC.of_keep h.K hk (Or.inl (Or.inr rfl))⟩
theorem lZ.below (h:lZ w0 w W g s p q P u l) (hb:Below W.heap.size W W'):lZ w0 w W' g s p q P u l:=⟨h.I.below hb,dX h.B h.B.size hb,Kd.R_below h.T hb,eC.below h.K hb⟩
theorem lZ.dn (h:lZ w0 w W g s p q P u l) (n:Nat):lZ w0 w (W.drewN n) g s p q P u l:=h.below (aV (Below.refl _ _) n)
theorem lZ.push (h:lZ w0 w W g s p q P u l) (ht:Kd.R eV 99 W' w0.heap.size (fun k=>((P k∨w.heap.size≤k)∧k≠g)∨W.heap.size≤k) v l') (hb:Below w0.heap.size w0 W') (hk:eC W W' (fun k=>(P k∨w.heap.size≤k)∧k≠g)):lZ w0 w W' g s p q P v l' :=
 ⟨h.I.kept hk (fun h=>h.2 rfl),hb,Kd.R_mono ht (fun k hk=>hk.elim id (fun h2=>⟨Or.inr (Nat.le_trans h.K.1 h2),h.I.fresh k h2⟩)),h.K.then_ hk (fun k hk=>hk.1.elim (fun h=>Or.inl (Or.inl h)) Or.inr)⟩
theorem lZ.deep (h:lZ w0 w W g s p q P u l) (ht:Kd.R eV 99 W' w0.heap.size (fun k=>((P k∨w.heap.size≤k)∧k≠g)∨W.heap.size≤k) v l') (hi:cE w0 W' g s p' q') (hb:Below w0.heap.size w0 W') (hk:eC W W' (fun k=>((P k∨w.heap.size≤k)∧k≠g)∨k=g)):lZ w0 w W' g s p' q' P v l' :=
 ⟨hi,hb,Kd.R_mono ht (fun k hk=>hk.elim id (fun h2=>⟨Or.inr (Nat.le_trans h.K.1 h2),h.I.fresh k h2⟩)),h.K.then_ hk (fun k hk=>hk.elim (fun h=>h.1.elim (fun h=>Or.inl (Or.inl h)) Or.inr) (fun h=>Or.inl (Or.inr h)))⟩
theorem lZ.vars {A:Option Addr} {n:Nat} {xs:List bN} (h:lZ w0 w W g s p q P u l) (hv:∀ W_,eC w W_ (fun k=>P k∨k=g)→Kd.C eV W_ A n xs):∀ W_,eC W W_ (fun k=>((P k∨w.heap.size≤k)∧k≠g)∨k=g)→Kd.C eV W_ A n xs :=
 fun W_ hk=>hv W_ (h.K.then_ hk (fun k hk=>hk.elim (fun h=>h.1.elim (fun h=>Or.inl (Or.inl h)) Or.inr) (fun h=>Or.inl (Or.inr h))))
theorem lZ.fin (h:lZ w0 w W g s p q P u l):Kd.R eV 99 W w0.heap.size (fun k=>(P k∨w.heap.size≤k)) u l:=Kd.R_mono h.T (fun _ hk=>hk.1)
end
end Go.Proofs.Ythipjoioicmcnaa.G
namespace Go.Proofs.Ythipjoioicmcnaa.G
open Go.RowKit Go.Proofs.YthipjoioicmcnaaW.PrintWords Go.Proofs.YthipjoioicmcnaaW.PrintLast Go.Proofs.YthipjoioicmcnaaW.PrintMore Go.Proofs.Ythipjoioicmcnaa.Sh
attribute [local go_sem] eS eR fI fJ eI eJ eU eT
def cI.j0:Nat→Bool→Int→Int→Int→Int→Int→Int→Option (List Int)
 | 0,_,_,_,_,_,_,_=>none
 | k + 1,x3,x102000,x102001,x102002,x102003,x102004,x102005=>if x3=true then (some (([x102003]:List Int))) else ((bD.f x102000 3 16).bind fun A8=>(if A8=true then (some (([x102003,x102004]:List Int))) else (if x102000=18 then (some (([x102003,x102004,x102005]:List Int))) else (some (([]:List Int))))))
def cI.f (k:Nat) (A0:Int) (A5:Int) (A6:Int) (A2:Int) (A3:Int) (A4:Int):Option (List Int):=if A0=2 then (cI.j0 k true A0 A5 A6 A2 A3 A4) else (if A0=17 then (cI.j0 k true A0 A5 A6 A2 A3 A4) else (if A0=19 then (cI.j0 k true A0 A5 A6 A2 A3 A4) else (cI.j0 k (A0 == 20) A0 A5 A6 A2 A3 A4)))
theorem cI.calls (k:Nat) (A0:Int) (A5:Int) (A6:Int) (A2:Int) (A3:Int) (A4:Int) (r:List Int) (w:World) (h:cI.f k A0 A5 A6 A2 A3 A4=some r) :
  Calls Try.prog 99 #[.agg #[.int .i64 A0,.int .i64 A5,.int .i64 A6,.int .i64 A2,.int .i64 A3,.int .i64 A4]] w fun e w'=>∃ v0_:Value,e = .returned (v0_)∧Kd.R (Kd.int .i64) 3 w' w.heap.size (fun _=>True) v0_ r∧Below w.heap.size w w':=by
 have hu99:=Try.underlying99;have HB:=aA.mk (Below.refl w.heap.size w);have H:(if A0=2 then (cI.j0 k true A0 A5 A6 A2 A3 A4) else (if A0=17 then (cI.j0 k true A0 A5 A6 A2 A3 A4) else (if A0=19 then (cI.j0 k true A0 A5 A6 A2 A3 A4) else (cI.j0 k (A0 == 20) A0 A5 A6 A2 A3 A4))))=some r:=h;clear h;have HC2:=aA.mk H;clear H
 go_enter Try.func99,Try.ntmps99
 go_upto_region 1 with (first|((with_reducible refine bM (N:=1) rfl ?_);refine bx (N:=1) (cs:=#[.int .i64 A0,.int .i64 A5,.int .i64 A6,.int .i64 A2,.int .i64 A3,.int .i64 A4]) (t:=99) ?_;intro A7 hg w3 hbox hb;have A1:=aA.mk (hbox);have GW101:=aA.mk ((by rw [hg];exact (aM (tb HB)):w.heap.size≤A7));have GE101:=aA.mk ((by rw [hg];exact (aM (tb HB)):w.heap.size≤A7));replace HB:=aA.mk (aE (tb HB) hb);clear hb hbox hg))
 (try simp only [Act.put,List.setIfInBounds_toArray,List.set_cons_zero,List.set_cons_succ])
 go_cut [3] (fun v3 wc=>∃ (kq:Nat) (A9:Bool),v3 = .bool A9∧aA (cI.j0 kq A9 A0 A5 A6 A2 A3 A4=some r)∧aA (kq≤k)∧aA (wc.heap[A7]? = some (.cells #[.int .i64 A0,.int .i64 A5,.int .i64 A6,.int .i64 A2,.int .i64 A3,.int .i64 A4] 99 (0,0)))∧aA (Below w.heap.size w wc))
 case first =>
  have H:=HC2.out;clear HC2
  by_cases c4:A0=2
  ·rw [if_pos c4] at H;have c4b0:(A0 == 2)=true:=beq_iff_eq.mpr c4;have c4b1:(A0 != 2)=false:=bne_eq_false_iff_eq.mpr c4;clear c4;(first|rw [c4b0]|(simp only [aJ,aK];rw [c4b0])|skip);have H':=aA.mk H;clear H;have hcz5__:=eM A1;have hfz5__:=f_ A1;go_wp2;go_meet
   case rel=>exact ⟨_,(true),(by first|rfl|(simp;done)|(simp [*];done)),H',⟨by first|omega|exact Nat.le_refl _⟩,⟨dr A1⟩,⟨by exact tb HB⟩⟩
  ·rw [if_neg c4] at H;have c4b0:(A0 == 2)=false:=beq_eq_false_iff_ne.mpr c4;have c4b1:(A0 != 2)=true:=bne_iff_ne.mpr c4;(first|rw [c4b0]|(simp only [aJ,aK];rw [c4b0])|skip)
   by_cases c6:A0=17
   ·rw [if_pos c6] at H;have c6b0:(A0 == 17)=true:=beq_iff_eq.mpr c6;have c6b1:(A0 != 17)=false:=bne_eq_false_iff_eq.mpr c6;clear c6;have H':=aA.mk H;clear H;have hcz7__:=eM A1;have hfz7__:=f_ A1;go_wp2;go_meet
    case rel=>exact ⟨_,(true),(by first|rfl|(simp;done)|(simp [*];done)),H',⟨by first|omega|exact Nat.le_refl _⟩,⟨dr A1⟩,⟨by exact tb HB⟩⟩
   ·rw [if_neg c6] at H;have c6b0:(A0 == 17)=false:=beq_eq_false_iff_ne.mpr c6;have c6b1:(A0 != 17)=true:=bne_iff_ne.mpr c6
    by_cases c8:A0=19
    ·rw [if_pos c8] at H;have c8b0:(A0 == 19)=true:=beq_iff_eq.mpr c8;have c8b1:(A0 != 19)=false:=bne_eq_false_iff_eq.mpr c8;clear c8;have H':=aA.mk H;clear H;have hcz9__:=eM A1;have hfz9__:=f_ A1;go_wp2;go_meet
     case rel=>exact ⟨_,(true),(by first|rfl|(simp;done)|(simp [*];done)),H',⟨by first|omega|exact Nat.le_refl _⟩,⟨dr A1⟩,⟨by exact tb HB⟩⟩
    ·rw [if_neg c8] at H;have c8b0:(A0 == 19)=false:=beq_eq_false_iff_ne.mpr c8;have c8b1:(A0 != 19)=true:=bne_iff_ne.mpr c8;have H':=aA.mk H;clear H;have hcz10__:=eM A1;have hfz10__:=f_ A1;go_wp2;go_meet
     case rel=>exact ⟨_,((A0 == 20)),(by first|rfl|(simp;done)|(simp [*];done)),H',⟨by first|omega|exact Nat.le_refl _⟩,⟨dr A1⟩,⟨by exact tb HB⟩⟩
 case rest =>
  clear HC2;obtain ⟨kq,A9,rfl,HA,HJ1,A1,HB⟩:=hcut
  cases kq with
  | zero=>exact absurd HA.out (by simp [cI.j0])
  | succ kj1 =>
   have H:=HA.out;clear HA;simp only [cI.j0] at H
   by_cases c11:A9=true
   ·subst c11
    have H1:(some (([A2]:List Int)))=some r:=by rw [if_pos rfl] at H;exact H
    clear H;have H:=H1;clear H1;obtain ⟨y102,hy102⟩:∃ y_:List Int,y_=(([A2]:List Int)):=⟨_,rfl⟩;replace H:(some y102)=some r:=gM hy102 H;have Ny102:=aA.mk hy102;clear hy102;obtain rfl:=os H;have hcz12__:=eM A1;have hfz12__:=f_ A1;go_wp2_with (first|((with_reducible refine bM (N:=24) rfl ?_);refine Kd.R_lit (Kd.int .i64) _ 3 ?hg (N:=24) ?hd (xs:=([A2]:List Int)) (inner:=[.int .i64 A2]) (ok:=fun _=>True) (okp:=fun _=>True) ?hr ?hp (fun _ hk=>hk) trivial (Below.refl _ _) (Nat.le_refl _) (by simp) ?_;(case hd=>rfl);(case hg=>rfl);(case hr=>first|(go_simp;done)|(go_simp;rfl));(case hp=>exact (cP.one (show Kd.M (Kd.int .i64) _ _ _ A2 [.int .i64 A2] from rfl) (cP.none _ _)));intro v103 w13 ho14 hb hg_ hnew_;clear hg_ hnew_;(first|rw [← Ny102.out] at ho14|(simp only [Int.reduceToNat] at ho14;rw [← Ny102.out] at ho14));have Aa:=aA.mk (Kd.R_lower ho14 (aM (tb HB)));replace A1:=aA.mk (aQ (g:=A7) (o := .cells #[.int .i64 A0,.int .i64 A5,.int .i64 A6,.int .i64 A2,.int .i64 A3,.int .i64 A4] 99 (0,0)) (dr A1) hb);replace HB:=aA.mk (aE (tb HB) hb);clear hb ho14));go_ret;exact ⟨_,er,ra Aa,tb HB⟩
   ·replace c11:=Bool.eq_false_iff.mpr c11;subst c11
    have H1:((bD.f A0 3 16).bind fun A8=>(if A8=true then (some (([A2,A3]:List Int))) else (if A0=18 then (some (([A2,A3,A4]:List Int))) else (some (([]:List Int))))))=some r:=by rw [if_neg (show ¬ (false=true) by decide)] at H;exact H
    clear H;have H:=H1;clear H1;replace H:=ob H;obtain ⟨A8,A150,H⟩:=H
    try dsimp only at H
    have A15:=aA.mk A150;clear A150
    by_cases c16:A8=true
    ·subst c16
     have H1:(some (([A2,A3]:List Int)))=some r:=by rw [if_pos rfl] at H;exact H
     clear H;have H:=H1;clear H1;obtain ⟨y106,hy106⟩:∃ y_:List Int,y_=(([A2,A3]:List Int)):=⟨_,rfl⟩;replace H:(some y106)=some r:=gM hy106 H;have Ny106:=aA.mk hy106;clear hy106;obtain rfl:=os H;have hcz17__:=eM A1;have hfz17__:=f_ A1;go_wp2_with (first|((with_reducible refine aD (f:=69) rfl ?_);refine aT (some 28) rfl rfl Try.func69 (by kernel_rfl) rfl #[.int .i64 A0,.int .i64 3,.int .i64 16] rfl ml ?_;(with_reducible refine (bD.calls A0 3 16 true _ A15.out).mono ?_);rintro e w' ⟨rfl,⟨nd,rfl⟩⟩;refine ⟨_,rfl,?_⟩)|((with_reducible refine bM (N:=33) rfl ?_);refine Kd.R_lit (Kd.int .i64) _ 3 ?hg (N:=33) ?hd (xs:=([A2,A3]:List Int)) (inner:=[.int .i64 A2,.int .i64 A3]) (ok:=fun _=>True) (okp:=fun _=>True) ?hr ?hp (fun _ hk=>hk) trivial (Below.refl _ _) (Nat.le_refl _) (by simp) ?_;(case hd=>rfl);(case hg=>rfl);(case hr=>first|(go_simp;done)|(go_simp;rfl));(case hp=>exact (cP.one (show Kd.M (Kd.int .i64) _ _ _ A2 [.int .i64 A2] from rfl) (cP.one (show Kd.M (Kd.int .i64) _ _ _ A3 [.int .i64 A3] from rfl) (cP.none _ _))));intro v107 w18 ho19 hb hg_ hnew_;clear hg_ hnew_;(first|rw [← Ny106.out] at ho19|(simp only [Int.reduceToNat] at ho19;rw [← Ny106.out] at ho19));have Ab:=aA.mk (Kd.R_lower ho19 (aM (tb HB)));replace A1:=aA.mk (aQ (g:=A7) (o := .cells #[.int .i64 A0,.int .i64 A5,.int .i64 A6,.int .i64 A2,.int .i64 A3,.int .i64 A4] 99 (0,0)) (dr A1) hb);replace HB:=aA.mk (aE (tb HB) hb);clear hb ho19));go_ret;exact ⟨_,er,ra Ab,tb HB⟩
    ·replace c16:=Bool.eq_false_iff.mpr c16;subst c16
     have H1:(if A0=18 then (some (([A2,A3,A4]:List Int))) else (some (([]:List Int))))=some r:=by rw [if_neg (show ¬ (false=true) by decide)] at H;exact H
     clear H;have H:=H1;clear H1
     by_cases c20:A0=18
     ·rw [if_pos c20] at H;have c20b0:(A0 == 18)=true:=beq_iff_eq.mpr c20;have c20b1:(A0 != 18)=false:=bne_eq_false_iff_eq.mpr c20;clear c20;obtain ⟨y109,hy109⟩:∃ y_:List Int,y_=(([A2,A3,A4]:List Int)):=⟨_,rfl⟩;replace H:(some y109)=some r:=gM hy109 H;have Ny109:=aA.mk hy109;clear hy109;obtain rfl:=os H;have hcz21__:=eM A1;have hfz21__:=f_ A1;go_wp2_with (first|((with_reducible refine aD (f:=69) rfl ?_);refine aT (some 28) rfl rfl Try.func69 (by kernel_rfl) rfl #[.int .i64 A0,.int .i64 3,.int .i64 16] rfl ml ?_;(with_reducible refine (bD.calls A0 3 16 false _ A15.out).mono ?_);rintro e w' ⟨rfl,⟨nd,rfl⟩⟩;refine ⟨_,rfl,?_⟩)|((with_reducible refine bM (N:=44) rfl ?_);refine Kd.R_lit (Kd.int .i64) _ 3 ?hg (N:=44) ?hd (xs:=([A2,A3,A4]:List Int)) (inner:=[.int .i64 A2,.int .i64 A3,.int .i64 A4]) (ok:=fun _=>True) (okp:=fun _=>True) ?hr ?hp (fun _ hk=>hk) trivial (Below.refl _ _) (Nat.le_refl _) (by simp) ?_;(case hd=>rfl);(case hg=>rfl);(case hr=>first|(go_simp;done)|(go_simp;rfl));(case hp=>exact (cP.one (show Kd.M (Kd.int .i64) _ _ _ A2 [.int .i64 A2] from rfl) (cP.one (show Kd.M (Kd.int .i64) _ _ _ A3 [.int .i64 A3] from rfl) (cP.one (show Kd.M (Kd.int .i64) _ _ _ A4 [.int .i64 A4] from rfl) (cP.none _ _)))));intro v110 w22 ho23 hb hg_ hnew_;clear hg_ hnew_;(first|rw [← Ny109.out] at ho23|(simp only [Int.reduceToNat] at ho23;rw [← Ny109.out] at ho23));have Ac:=aA.mk (Kd.R_lower ho23 (aM (tb HB)));replace A1:=aA.mk (aQ (g:=A7) (o := .cells #[.int .i64 A0,.int .i64 A5,.int .i64 A6,.int .i64 A2,.int .i64 A3,.int .i64 A4] 99 (0,0)) (dr A1) hb);replace HB:=aA.mk (aE (tb HB) hb);clear hb ho23));go_ret;exact ⟨_,er,ra Ac,tb HB⟩
     ·rw [if_neg c20] at H;have c20b0:(A0 == 18)=false:=beq_eq_false_iff_ne.mpr c20;have c20b1:(A0 != 18)=true:=bne_iff_ne.mpr c20;obtain ⟨y112,hy112⟩:∃ y_:List Int,y_=(([]:List Int)):=⟨_,rfl⟩;replace H:(some y112)=some r:=gM hy112 H;have Ny112:=aA.mk hy112;clear hy112;obtain rfl:=os H;have hcz24__:=eM A1;have hfz24__:=f_ A1;go_wp2_with (first|((with_reducible refine aD (f:=69) rfl ?_);refine aT (some 28) rfl rfl Try.func69 (by kernel_rfl) rfl #[.int .i64 A0,.int .i64 3,.int .i64 16] rfl ml ?_;(with_reducible refine (bD.calls A0 3 16 false _ A15.out).mono ?_);rintro e w' ⟨rfl,⟨nd,rfl⟩⟩;refine ⟨_,rfl,?_⟩)|((with_reducible refine bM (N:=45) rfl ?_);refine Kd.R_lit (Kd.int .i64) _ 3 ?hg (N:=45) ?hd (xs:=([]:List Int)) (inner:=[]) (ok:=fun _=>True) (okp:=fun _=>True) ?hr ?hp (fun _ hk=>hk) trivial (Below.refl _ _) (Nat.le_refl _) (by simp) ?_;(case hd=>rfl);(case hg=>rfl);(case hr=>first|(go_simp;done)|(go_simp;rfl));(case hp=>exact (cP.none _ _));intro v113 w25 ho26 hb hg_ hnew_;clear hg_ hnew_;(first|rw [← Ny112.out] at ho26|(simp only [Int.reduceToNat] at ho26;rw [← Ny112.out] at ho26));have Ad:=aA.mk (Kd.R_lower ho26 (aM (tb HB)));replace A1:=aA.mk (aQ (g:=A7) (o := .cells #[.int .i64 A0,.int .i64 A5,.int .i64 A6,.int .i64 A2,.int .i64 A3,.int .i64 A4] 99 (0,0)) (dr A1) hb);replace HB:=aA.mk (aE (tb HB) hb);clear hb ho26));go_ret;exact ⟨_,er,ra Ad,tb HB⟩
def aH.l0:Nat→Int→Int→Int→Option (Int)
 | 0,_,_,_=>none
 | k + 1,x0,x3,x4=>if x4 < x0 then (aH.l0 k x0 (wrap64 (2 * x3)) (wrap64 (x4 + 1))) else (some x3)
def aH.f (k:Nat) (a0:Int):Option (Int):=aH.l0 k a0 1 0
theorem aH.calls (k:Nat) (a0:Int) (r:Int) (w:World) (h:aH.f k a0=some r) :
  Calls Try.prog 70 #[.int .i64 a0] w fun e w'=>e = .returned (.int .i64 r)∧bT w w':=by
 have H:(aH.l0 k a0 1 0)=some r:=h;clear h;have H':=aA.mk H;clear H
 go_enter Try.func70,Try.ntmps70
 go_wp2
 go_loopg [3,4] k (fun kq v3 v4 w'=>∃ (A1:Int) (A0:Int),v3 = .int .i64 A1∧v4 = .int .i64 A0∧aA (aH.l0 kq a0 A1 A0=some r)∧aA (kq≤k)∧bT w w')
 case atStart=>exact ⟨(1),(0),(by first|rfl|(simp;done)|(simp [*];done)),(by first|rfl|(simp;done)|(simp [*];done)),H',⟨Nat.le_refl _⟩,by repeat (first|exact bT.refl _|apply bT.step)⟩
 case round =>
  clear H';obtain ⟨A1,A0,rfl,rfl,HA,HK1,⟨m1,rfl⟩⟩:=hrel
  cases gk with
  | zero=>exact absurd HA.out (by simp [aH.l0])
  | succ k1 =>
   have H:=HA.out;clear HA;simp only [aH.l0] at H
   by_cases c2:A0 < a0
   ·rw [if_pos c2] at H;have c2b0:decide (A0 < a0)=true:=decide_eq_true c2;clear c2;have H':=aA.mk H;clear H;go_wp2;go_roundg k1
    case measure=>have:=HK1.out;omega
    case rel=>exact ⟨(wrap64 (2 * A1)),(wrap64 (A0 + 1)),(by first|rfl|(simp;done)|(simp [*];done)),(by first|rfl|(simp;done)|(simp [*];done)),H',⟨by have:=HK1.out;omega⟩,by repeat (first|exact bT.refl _|apply bT.step)⟩
   ·rw [if_neg c2] at H;have c2b0:decide (A0 < a0)=false:=decide_eq_false c2;clear c2;obtain rfl:=os H;go_wp2;go_ret;exact ⟨e1,dn⟩
def bV.f (k:Nat) (a0:Int) (a1:Int):Option (Bool):=(bD.f a0 1 8).bind fun A2=>(if A2=true then ((aH.f k a0).bind fun A1=>((bD.f a1 0 (wrap64 (A1 - 1))).bind fun A0=>(some A0))) else (some false))
theorem bV.calls (k:Nat) (a0:Int) (a1:Int) (r:Bool) (w:World) (h:bV.f k a0 a1=some r) :
  Calls Try.prog 131 #[.int .i64 a0,.int .i64 a1] w fun e w'=>e = .returned (.bool r)∧bT w w':=by
 have H:((bD.f a0 1 8).bind fun A2=>(if A2=true then ((aH.f k a0).bind fun A1=>((bD.f a1 0 (wrap64 (A1 - 1))).bind fun A0=>(some A0))) else (some false)))=some r:=h;clear h;replace H:=ob H;obtain ⟨A2,A30,H⟩:=H
 try dsimp only at H
 have A3:=aA.mk A30;clear A30
 by_cases c4:A2=true
 ·subst c4
  have H1:((aH.f k a0).bind fun A1=>((bD.f a1 0 (wrap64 (A1 - 1))).bind fun A0=>(some A0)))=some r:=by rw [if_pos rfl] at H;exact H
  clear H;have H:=H1;clear H1;replace H:=ob H;obtain ⟨A1,A50,H⟩:=H;replace H:((bD.f a1 0 (wrap64 (A1 - 1))).bind fun A0=>(some A0))=some r:=H;have A5:=aA.mk A50;clear A50;replace H:=ob H;obtain ⟨A0,A60,H⟩:=H;replace H:(some A0)=some r:=H;have A6:=aA.mk A60;clear A60;obtain rfl:=os H
  go_enter Try.func131,Try.ntmps131
  go_wp2_with (first|((with_reducible refine aD (f:=69) rfl ?_);refine aT (some 6) rfl rfl Try.func69 (by kernel_rfl) rfl #[.int .i64 a0,.int .i64 1,.int .i64 8] rfl ml ?_;(with_reducible refine (bD.calls a0 1 8 true _ A3.out).mono ?_);rintro e w' ⟨rfl,⟨nd,rfl⟩⟩;refine ⟨_,rfl,?_⟩)|(go_at_call 70;(try simp only [aJ,aK]);(with_reducible refine (aH.calls k a0 A1 _ A5.out).mono ?_);rintro e w' ⟨rfl,⟨nd,rfl⟩⟩)|(go_at_call 69;(try simp only [aJ,aK]);(with_reducible refine (bD.calls a1 0 (wrap64 (A1 - 1)) A0 _ A6.out).mono ?_);rintro e w' ⟨rfl,⟨nd,rfl⟩⟩));go_ret;exact ⟨e1,dn⟩
 ·replace c4:=Bool.eq_false_iff.mpr c4;subst c4
  have H1:(some false)=some r:=by rw [if_neg (show ¬ (false=true) by decide)] at H;exact H
  clear H;have H:=H1;clear H1;obtain rfl:=os H
  go_enter Try.func131,Try.ntmps131
  go_wp2_with (first|((with_reducible refine aD (f:=69) rfl ?_);refine aT (some 6) rfl rfl Try.func69 (by kernel_rfl) rfl #[.int .i64 a0,.int .i64 1,.int .i64 8] rfl ml ?_;(with_reducible refine (bD.calls a0 1 8 false _ A3.out).mono ?_);rintro e w' ⟨rfl,⟨nd,rfl⟩⟩;refine ⟨_,rfl,?_⟩));go_ret;exact ⟨e1,dn⟩
def xO:Nat→List Int→Int→Int→Option Bool
 | 0,_,_,_=>none
 | k + 1,ps,n,j=>if j < (ps.length:Int) then (if 0≤j then (if oY (rd ps j) 0 (wrap64 (n - 1))=true then xO k ps n (wrap64 (j + 1)) else some false) else none) else some true
def uO:Nat→List bN→List Int→List Int→Int→Option (List Int)
 | 0,_,_,_,_=>none
 | k + 1,l,ps,ws,j=>if j < (ps.length:Int) then (if (0≤j∧(0≤rd ps j∧rd ps j < (l.length:Int)))∧ws.length < 17592186044416 then uO k l ps (ws ++ [(aC l (rd ps j)).f1]) (wrap64 (j + 1)) else none) else some ws
def zR (k:Nat) (x:bN) (ws:List Int):Option Bool :=
 if x.f0=0 then (bV.f k x.f1 x.f2).bind fun t=>some (t && (x.f3 == 0 && (x.f4 == 0 && x.f5 == 0))) else
 if x.f0=1 then some (oY x.f2 0 7 && (x.f3 == 0 && (x.f4 == 0 && x.f5 == 0))) else
 if x.f0=2 then (if 0 < ws.length then some (rd ws 0 == x.f1 && (x.f2 == 0 && (x.f4 == 0 && x.f5 == 0))) else none) else
 if oY x.f0 3 12=true then (if 1 < ws.length then some (rd ws 0 == x.f1 && (rd ws 1 == x.f1 && (x.f2 == 0 && x.f5 == 0))) else none) else
 if oY x.f0 13 15=true then (if 1 < ws.length then some (rd ws 0 == rd ws 1 && (x.f1 == 1 && (x.f2 == 0 && x.f5 == 0))) else none) else
 if x.f0=16 then (if 1 < ws.length then some (wrap64 (rd ws 0 + rd ws 1) == x.f1 && (x.f2 == 0 && x.f5 == 0)) else none) else
 if x.f0=17 then (if 0 < ws.length then some (decide (0≤x.f2) && (decide (x.f2≤wrap64 (rd ws 0 - x.f1)) && (x.f4 == 0 && x.f5 == 0))) else none) else
 if x.f0=18 then (if 2 < ws.length then some (rd ws 0 == 1 && (rd ws 1 == x.f1 && (rd ws 2 == x.f1 && x.f2 == 0))) else none) else
 if x.f0=19∨x.f0=20 then (if 0 < ws.length then some (oY x.f2 0 7 && (oY x.f4 1 8 && (rd ws 0 == 1 && (x.f1 == 1 && x.f5 == 0)))) else none) else some false
def fP.f (k:Nat) (l0:List bN) (i:Int):Option Bool:=if 0≤i∧i < (l0.length:Int) then (cI.f k (aC l0 i).f0 (aC l0 i).f1 (aC l0 i).f2 (aC l0 i).f3 (aC l0 i).f4 (aC l0 i).f5).bind fun ps=>(xO k ps i 0).bind fun t=>if t=true then (if oY (aC l0 i).f1 1 8=true then (uO k l0 ps [] 0).bind fun ws=>zR k (aC l0 i) ws else some false) else some false else none
theorem or3 {a b c r:Bool} (h:some (a && (b && c))=some r):(a=false∧r=false)∨(a=true∧b=false∧r=false)∨(a=true∧b=true∧c=r):=by
 cases a <;> cases b <;> simp_all
theorem or4 {a b c d r:Bool} (h:some (a && (b && (c && d)))=some r):(a=false∧r=false)∨(a=true∧b=false∧r=false)∨(a=true∧b=true∧c=false∧r=false)∨(a=true∧b=true∧c=true∧d=r):=by
 cases a <;> cases b <;> cases c <;> simp_all
theorem or5 {a b c d f r:Bool} (h:some (a && (b && (c && (d && f))))=some r):(a=false∧r=false)∨(a=true∧b=false∧r=false)∨(a=true∧b=true∧c=false∧r=false)∨(a=true∧b=true∧c=true∧d=false∧r=false)∨(a=true∧b=true∧c=true∧d=true∧f=r):=by
 cases a <;> cases b <;> cases c <;> cases d <;> simp_all
theorem fP.calls (k:Nat) (A0:Option Addr) (c0:Nat) (l0:List (bN)) (i:Int) (r:Bool) (w:World) (hr0:Kd.C eV w A0 l0.length l0) (hc0:l0.length≤c0) (h:fP.f k l0 i=some r) :
  Calls Try.prog 130 #[.slice A0 l0.length c0,.int .i64 i] w fun e w'=>e = .returned (.bool r)∧Below w.heap.size w w':=by
 have HR0:=aA.mk hr0;clear hr0 hc0;unfold fP.f at h
 by_cases c3:0≤i∧i < (l0.length:Int)
 case neg=>rw [if_neg c3] at h;cases h
 rw [if_pos c3] at h;obtain ⟨ad,e_,hx0,hx1,hx2,hx3,hx4,hx5⟩:=dD HR0.out i c3.1 c3.2;cases e_;generalize aC l0 i=x at h hx0 hx1 hx2 hx3 hx4 hx5;obtain ⟨ps,hp,h⟩:=Option.bind_eq_some_iff.1 h;obtain ⟨t,ht,h⟩:=Option.bind_eq_some_iff.1 h;have HP:=aA.mk hp;have HA0:=aA.mk ht;have H0:=aA.mk h;clear hp ht h;obtain ⟨c3,c4⟩:=c3;have d3:decide (0≤i)=true:=decide_eq_true c3;have d4:decide (i < (l0.length:Int))=true:=decide_eq_true c4;replace c3:=eq_true c3;replace c4:=eq_true c4
 go_enter Try.func130,Try.ntmps130
 go_upto_region 2 with (first|((with_reducible refine bM (N:=5) rfl ?_);refine bx (N:=5) (cs:=#[.int .i64 0,.int .i64 0,.int .i64 0,.int .i64 0,.int .i64 0,.int .i64 0]) (t:=99) ?_;intro gn hg w1 hbox hb;have BN0:=aA.mk hbox;have HX0:=aA.mk hb;have GN:=aA.mk (show w.heap.size≤gn by rw [hg];exact Nat.le_refl _);clear hg hbox hb;obtain ⟨hz0,hz1,hz2,hz3,hz4,hz5⟩:=oV BN0;have hzf:=xQ BN0))
 obtain ⟨w5,e5,BN5,HB5,_⟩:=ns6 BN0 HX0 GN (.int .i64 x.f0) (.int .i64 x.f1) (.int .i64 x.f2) (.int .i64 x.f3) (.int .i64 x.f4) (.int .i64 x.f5);rw [e5];clear e5 BN0 HX0 hz0 hz1 hz2 hz3 hz4 hz5 hzf hx0 hx1 hx2 hx3 hx4 hx5 c3 c4 d3 d4;obtain ⟨hz0,hz1,hz2,hz3,hz4,hz5⟩:=oV BN5;go_wp2_with (first|(go_at_call 99;(try simp only [aJ,aK]);(with_reducible refine (cI.calls k x.f0 x.f1 x.f2 x.f3 x.f4 x.f5 ps _ HP.out).mono ?_);rintro e w8 ⟨v_,rfl,ho,hb⟩;have HR:=aA.mk (Kd.R_lower ho HB5.out.size);have BN:=aA.mk (aQ BN5.out hb);have HB:=aA.mk (aE HB5.out hb);clear ho hb;obtain ⟨Ap,cp,ep⟩:=Kd.R_slice HR.out;subst ep))
 go_loopg [7] k (fun kq v7 wr=>∃ (j:Int),v7 = .int .i64 j∧aA (xO kq ps i j=some t)∧aA (kq≤k)∧aA (Kd.R (Kd.int .i64) 3 wr w.heap.size (fun _=>True) (.slice Ap ps.length cp) ps)∧aA (wr.heap[gn]? = some (.cells #[.int .i64 x.f0,.int .i64 x.f1,.int .i64 x.f2,.int .i64 x.f3,.int .i64 x.f4,.int .i64 x.f5] 99 (0,0)))∧aA (Below w.heap.size w wr))
 case atStart=>exact ⟨0,rfl,HA0,⟨Nat.le_refl _⟩,HR,BN,HB⟩
 case round =>
  clear HA0 HR BN HB hz0 hz1 hz2 hz3 hz4 hz5 HB5 BN5;obtain ⟨j,rfl,HA,HK1,HR,BN,HB⟩:=hrel
  cases gk with
  | zero=>exact absurd HA.out (by simp [xO])
  | succ k1 =>
  have H:=HA.out;clear HA;simp only [xO] at H
  by_cases c5:j < (ps.length:Int)
  ·rw [if_pos c5] at H
   by_cases c6:0≤j
   case neg=>rw [if_neg c6] at H;cases H
   rw [if_pos c6] at H;have d5:decide (j < (ps.length:Int))=true:=decide_eq_true c5;have d6:decide (0≤j)=true:=decide_eq_true c6;obtain ⟨ad2,e_,hxp⟩:=Kd.at_int (Kd.R_reads' HR.out).2.2 j c6 c5;cases e_;replace c5:=eq_true c5;replace c6:=eq_true c6
   by_cases c7:oY (rd ps j) 0 (wrap64 (i - 1))=true
   ·rw [if_pos c7] at H;have H':=aA.mk H;clear H;go_wp2_with (first|(go_at_call 69;(try simp only [aJ,aK]);(with_reducible refine (qO _ _ _ _).mono ?_);rintro e w' ⟨rfl,⟨nd,rfl⟩⟩;(try exact dd)));go_roundg k1
    case measure=>have:=HK1.out;omega
    case rel=>exact ⟨wrap64 (j + 1),rfl,H',⟨by have:=HK1.out;omega⟩,⟨(ra HR)⟩,⟨(dr BN)⟩,⟨(tb HB)⟩⟩
   ·rw [if_neg c7] at H;replace c7:=Bool.eq_false_iff.2 c7;obtain rfl:=os H;have h:=H0.out;rw [if_neg (by decide)] at h;obtain rfl:=Option.some.inj h;clear H h;go_wp2_with (first|(go_at_call 69;(try simp only [aJ,aK]);(with_reducible refine (qO _ _ _ _).mono ?_);rintro e w' ⟨rfl,⟨nd,rfl⟩⟩;(try exact dd)));go_ret;exact ⟨rfl,(tb HB)⟩
  ·rw [if_neg c5] at H;have d5:decide (j < (ps.length:Int))=false:=decide_eq_false c5;obtain rfl:=os H;have h:=H0.out;rw [if_pos rfl] at h;clear c5 H H0;obtain ⟨hz0,hz1,hz2,hz3,hz4,hz5⟩:=oV BN
   by_cases c8:oY x.f1 1 8=true
   case neg =>
    rw [if_neg c8] at h;replace c8:=Bool.eq_false_iff.2 c8;obtain rfl:=Option.some.inj h;clear h;go_wp2_with (first|(go_at_call 69;(try simp only [aJ,aK]);(with_reducible refine (qO _ _ _ _).mono ?_);rintro e w' ⟨rfl,⟨nd,rfl⟩⟩;(try exact dd)));go_ret;exact ⟨rfl,(tb HB)⟩
   rw [if_pos c8] at h;obtain ⟨uA,hw,h⟩:=Option.bind_eq_some_iff.1 h;have HW0:=aA.mk hw;have HS:=aA.mk h;clear hw h;go_wp2_with (first|(go_at_call 69;(try simp only [aJ,aK]);(with_reducible refine (qO _ _ _ _).mono ?_);rintro e w' ⟨rfl,⟨nd,rfl⟩⟩;(try exact dd))|((with_reducible refine bM (N:=34) rfl ?_);refine Kd.R_lit (Kd.int .i64) _ 3 ?hg (N:=34) ?hd (xs:=([]:List Int)) (inner:=[]) (ok:=fun _=>True) (okp:=fun _=>True) ?hr ?hp (fun _ hk=>hk) trivial (Below.refl _ _) (Nat.le_refl _) (by simp) ?_;(case hd=>rfl);(case hg=>rfl);(case hr=>first|(go_simp;done)|(go_simp;rfl));(case hp=>exact (cP.none _ _));intro v110 w19 ho20 hb hg_ hnew_;clear hg_ hnew_;have HRa:=re HR (Kd.R_base ho20) hb;have HO:=aA.mk (Kd.R_lower (Kd.R_new' ho20 (Kd.R_lt (ra HR))) (aM (tb HB)));have BNa:=bb BN hb;have HBa:=bs0 HB hb;clear hb ho20));clear HR BN HB hz0 hz1 hz2 hz3 hz4 hz5
   go_loopg [8,9] k (fun kq v8 v9 wr=>∃ (ws:List Int) (j:Int),v9 = .int .i64 j∧aA (uO kq l0 ps ws j=some uA)∧aA (kq≤k)∧aA (Kd.R (Kd.int .i64) 3 wr w.heap.size (fun k_=>some k_≠(v8:Value).ownBlock) (.slice Ap ps.length cp) ps)∧aA (Kd.R (Kd.int .i64) 3 wr w.heap.size (fun k_=>some k_≠((.slice Ap ps.length cp):Value).ownBlock) v8 ws)∧aA (wr.heap[gn]? = some (.cells #[.int .i64 x.f0,.int .i64 x.f1,.int .i64 x.f2,.int .i64 x.f3,.int .i64 x.f4,.int .i64 x.f5] 99 (0,0)))∧aA (Below w.heap.size w wr))
   case atStart=>exact ⟨[],0,rfl,HW0,⟨Nat.le_refl _⟩,⟨Kd.R_mono HRa.out (fun _ hk=>hk.2)⟩,⟨Kd.R_mono HO.out (fun _ hk=>hk.2)⟩,BNa,HBa⟩
   case round =>
    clear HW0 HRa HO BNa HBa HK1 d5;obtain ⟨ws,j,rfl,HA,HK1,HR,HO,BN,HB⟩:=hrel
    cases gk with
    | zero=>exact absurd HA.out (by simp [uO])
    | succ k2 =>
    have H:=HA.out;clear HA;simp only [uO] at H
    by_cases c5:j < (ps.length:Int)
    ·rw [if_pos c5] at H
     by_cases c6:(0≤j∧(0≤rd ps j∧rd ps j < (l0.length:Int)))∧ws.length < 17592186044416
     case neg=>rw [if_neg c6] at H;cases H
     rw [if_pos c6] at H;have H':=aA.mk H;have LM:=aA.mk c6.2;clear H;obtain ⟨⟨c6,c7,c9⟩,_⟩:=c6;obtain ⟨ad2,e_,hxp⟩:=Kd.at_int (Kd.R_reads' HR.out).2.2 j c6 c5;cases e_;obtain ⟨ad3,e_,_,hx1,_⟩:=dD HR0.out (rd ps j) c7 c9;obtain rfl:ad=ad3:=(by injection e_);clear e_;replace hx1:=ct HB hx1;have d5:decide (j < (ps.length:Int))=true:=decide_eq_true c5;have d6:decide (0≤j)=true:=decide_eq_true c6;have d7:decide (0≤rd ps j)=true:=decide_eq_true c7;have d9:decide (rd ps j < (l0.length:Int))=true:=decide_eq_true c9;replace c5:=eq_true c5;replace c6:=eq_true c6;replace c7:=eq_true c7;replace c9:=eq_true c9;go_wp2_with (first|((with_reducible refine cM (b := .append) (xs:=#[.tmp 41,.tmp 50]) rfl ?_);at_builtin;refine Kd.R_append (Kd.int .i64) (w0:=w) w.heap.size rfl (.tmp 41) (.tmp 50) 31 3 (.int .i64 0) 8 rfl Try.underlying31 info3 rfl (by decide) (by omega) u8 ws ((aC l0 (rd ps j)).f1) [.int .i64 ((aC l0 (rd ps j)).f1)] (fun k_=>some k_≠(.slice (some ad2) ps.length cp:Value).ownBlock) (fun _=>False) rfl rfl ?aP (fun _ hk=>hk.elim) ?aF ?aO ?aB ?aS ?aL ?_;(case aP=>exact rfl);(case aB=>exact (tb HB));(case aF=>exact (fun k_ hk=>Kd.fresh' (Kd.R_lt (ra HR)) k_ hk));(case aO=>exact (ra HO));(case aS=>exact (aM (tb HB)));(case aL=>have:=LM.out;omega);intro v115 w26 ho hb hg hat;have HRa:=aA.mk (Kd.R_after (ok:=(fun _=>True)) (by (with_reducible repeat (first|apply Kd.R_alloc|apply Kd.R_drewN|apply Kd.R_drew));exact Kd.R_mono HR.out (fun _ hk=>⟨trivial,hk⟩)) hg hat);have BNa:=aA.mk (dO (g:=gn) (dr BN) hg (Kd.R_ne HO.out BN.out (by decide)));have HBa:=aA.mk hb;have HOa:=aA.mk ho;clear ho hb hg hat));go_roundg k2
     case measure=>have:=HK1.out;omega
     case rel=>exact ⟨_,wrap64 (j + 1),rfl,H',⟨by have:=HK1.out;omega⟩,⟨Kd.R_mono HRa.out (fun _ hk=>hk.2)⟩,HOa,BNa,HBa⟩
    ·rw [if_neg c5] at H;have d5:decide (j < (ps.length:Int))=false:=decide_eq_false c5;obtain rfl:=os H;have H:=HS.out;clear c5 HS HR HK1;obtain ⟨hz0,hz1,hz2,hz3,hz4,hz5⟩:=oV BN;obtain ⟨A8,c8_,e8⟩:=Kd.R_slice HO.out;subst e8;have HU:=aA.mk (Kd.R_reads' HO.out).2.2
     have cu:∀ q:Int,0≤q→q < (ws.length:Int)→∃ ad8,A8=some ad8∧wr.cell? (ad8.add q.toNat)=some (.int .i64 (rd ws q)):=fun q h1 h2=>Kd.at_int HU.out q h1 h2
     unfold zR at H
     by_cases z0:x.f0=0;rotate_left;rw [if_neg z0] at H;have ee0:(x.f0 == 0)=false:=beq_eq_false_iff_ne.2 z0;by_cases z1:x.f0=1;rotate_left;rw [if_neg z1] at H;have ee1:(x.f0 == 1)=false:=beq_eq_false_iff_ne.2 z1;by_cases z2:x.f0=2;rotate_left;rw [if_neg z2] at H;have ee2:(x.f0 == 2)=false:=beq_eq_false_iff_ne.2 z2;by_cases z3:oY x.f0 3 12=true;rotate_left;rw [if_neg z3] at H;replace z3:=Bool.eq_false_iff.2 z3;by_cases z4:oY x.f0 13 15=true;rotate_left;rw [if_neg z4] at H;replace z4:=Bool.eq_false_iff.2 z4;by_cases z5:x.f0=16;rotate_left;rw [if_neg z5] at H;have e5:(x.f0 == 16)=false:=beq_eq_false_iff_ne.2 z5;by_cases z6:x.f0=17;rotate_left;rw [if_neg z6] at H;have e6:(x.f0 == 17)=false:=beq_eq_false_iff_ne.2 z6;by_cases z7:x.f0=18;rotate_left;rw [if_neg z7] at H;have e7:(x.f0 == 18)=false:=beq_eq_false_iff_ne.2 z7;by_cases z8:x.f0=19∨x.f0=20;rotate_left;(rw [if_neg z8] at H;obtain rfl:=Option.some.inj H;have e8:(x.f0 == 19)=false:=beq_eq_false_iff_ne.2 (fun h=>z8 (Or.inl h));have e9:(x.f0 == 20)=false:=beq_eq_false_iff_ne.2 (fun h=>z8 (Or.inr h)));rotate_right;(rw [if_pos z8] at H;by_cases l0_:0 < ws.length;rotate_left;(rw [if_neg l0_] at H;cases H);rotate_right;rw [if_pos l0_] at H;obtain ⟨a8,e_,g0⟩:=cu 0 (by omega) (by omega);cases e_;rw [show ((0:Int)).toNat=0 from rfl,Addr.add_zero'] at g0;have m0:decide (0 < ws.length)=true:=decide_eq_true (by omega);have z9:((x.f0 == 19)=true)∨((x.f0 == 19)=false∧(x.f0 == 20)=true):=(by by_cases h:x.f0=19;(exact Or.inl (beq_iff_eq.2 h));exact Or.inr ⟨beq_eq_false_iff_ne.2 h,beq_iff_eq.2 (z8.resolve_left h)⟩);clear z8;rcases z9 with e8 | ⟨e8,e9⟩ <;> rcases or5 H with ⟨b0,rfl⟩ | ⟨b0,b1,rfl⟩ | ⟨b0,b1,b2,rfl⟩ | ⟨b0,b1,b2,b3,rfl⟩ | ⟨b0,b1,b2,b3,rfl⟩);rotate_right;rw [if_pos z7] at H;have e7:(x.f0 == 18)=true:=beq_iff_eq.2 z7;by_cases l0_:2 < ws.length;rotate_left;(rw [if_neg l0_] at H;cases H);rotate_right;rw [if_pos l0_] at H;obtain ⟨a8,e_,g0⟩:=cu 0 (by omega) (by omega);cases e_;rw [show ((0:Int)).toNat=0 from rfl,Addr.add_zero'] at g0;have m0:decide (0 < ws.length)=true:=decide_eq_true (by omega);obtain ⟨a9,e_,g1⟩:=cu 1 (by omega) (by omega);obtain rfl:a8=a9:=(by injection e_);clear e_;rw [show ((1:Int)).toNat=1 from rfl,show a8.add 1=⟨a8.block,a8.off + 1,none⟩ from rfl] at g1;have m1:decide (1 < ws.length)=true:=decide_eq_true (by omega);obtain ⟨a9,e_,g2⟩:=cu 2 (by omega) (by omega);obtain rfl:a8=a9:=(by injection e_);clear e_;rw [show ((2:Int)).toNat=2 from rfl,show a8.add 2=⟨a8.block,a8.off + 2,none⟩ from rfl] at g2;have m2:decide (2 < ws.length)=true:=decide_eq_true (by omega);rcases or4 H with ⟨b0,rfl⟩ | ⟨b0,b1,rfl⟩ | ⟨b0,b1,b2,rfl⟩ | ⟨b0,b1,b2,rfl⟩;rotate_right;rw [if_pos z6] at H;have e6:(x.f0 == 17)=true:=beq_iff_eq.2 z6;by_cases l0_:0 < ws.length;rotate_left;(rw [if_neg l0_] at H;cases H);rotate_right;rw [if_pos l0_] at H;obtain ⟨a8,e_,g0⟩:=cu 0 (by omega) (by omega);cases e_;rw [show ((0:Int)).toNat=0 from rfl,Addr.add_zero'] at g0;have m0:decide (0 < ws.length)=true:=decide_eq_true (by omega);rcases or4 H with ⟨b0,rfl⟩ | ⟨b0,b1,rfl⟩ | ⟨b0,b1,b2,rfl⟩ | ⟨b0,b1,b2,rfl⟩;rotate_right;rw [if_pos z5] at H;have e5:(x.f0 == 16)=true:=beq_iff_eq.2 z5;by_cases l0_:1 < ws.length;rotate_left;(rw [if_neg l0_] at H;cases H);rotate_right;rw [if_pos l0_] at H;obtain ⟨a8,e_,g0⟩:=cu 0 (by omega) (by omega);cases e_;rw [show ((0:Int)).toNat=0 from rfl,Addr.add_zero'] at g0;have m0:decide (0 < ws.length)=true:=decide_eq_true (by omega);obtain ⟨a9,e_,g1⟩:=cu 1 (by omega) (by omega);obtain rfl:a8=a9:=(by injection e_);clear e_;rw [show ((1:Int)).toNat=1 from rfl,show a8.add 1=⟨a8.block,a8.off + 1,none⟩ from rfl] at g1;have m1:decide (1 < ws.length)=true:=decide_eq_true (by omega);rcases or3 H with ⟨b0,rfl⟩ | ⟨b0,b1,rfl⟩ | ⟨b0,b1,rfl⟩;rotate_right;rw [if_pos z4] at H;skip;by_cases l0_:1 < ws.length;rotate_left;(rw [if_neg l0_] at H;cases H);rotate_right;rw [if_pos l0_] at H;obtain ⟨a8,e_,g0⟩:=cu 0 (by omega) (by omega);cases e_;rw [show ((0:Int)).toNat=0 from rfl,Addr.add_zero'] at g0;have m0:decide (0 < ws.length)=true:=decide_eq_true (by omega);obtain ⟨a9,e_,g1⟩:=cu 1 (by omega) (by omega);obtain rfl:a8=a9:=(by injection e_);clear e_;rw [show ((1:Int)).toNat=1 from rfl,show a8.add 1=⟨a8.block,a8.off + 1,none⟩ from rfl] at g1;have m1:decide (1 < ws.length)=true:=decide_eq_true (by omega);rcases or4 H with ⟨b0,rfl⟩ | ⟨b0,b1,rfl⟩ | ⟨b0,b1,b2,rfl⟩ | ⟨b0,b1,b2,rfl⟩;rotate_right;rw [if_pos z3] at H;skip;by_cases l0_:1 < ws.length;rotate_left;(rw [if_neg l0_] at H;cases H);rotate_right;rw [if_pos l0_] at H;obtain ⟨a8,e_,g0⟩:=cu 0 (by omega) (by omega);cases e_;rw [show ((0:Int)).toNat=0 from rfl,Addr.add_zero'] at g0;have m0:decide (0 < ws.length)=true:=decide_eq_true (by omega);obtain ⟨a9,e_,g1⟩:=cu 1 (by omega) (by omega);obtain rfl:a8=a9:=(by injection e_);clear e_;rw [show ((1:Int)).toNat=1 from rfl,show a8.add 1=⟨a8.block,a8.off + 1,none⟩ from rfl] at g1;have m1:decide (1 < ws.length)=true:=decide_eq_true (by omega);rcases or4 H with ⟨b0,rfl⟩ | ⟨b0,b1,rfl⟩ | ⟨b0,b1,b2,rfl⟩ | ⟨b0,b1,b2,rfl⟩;rotate_right;rw [if_pos z2] at H;have ee2:(x.f0 == 2)=true:=beq_iff_eq.2 z2;by_cases l0_:0 < ws.length;rotate_left;(rw [if_neg l0_] at H;cases H);rotate_right;rw [if_pos l0_] at H;obtain ⟨a8,e_,g0⟩:=cu 0 (by omega) (by omega);cases e_;rw [show ((0:Int)).toNat=0 from rfl,Addr.add_zero'] at g0;have m0:decide (0 < ws.length)=true:=decide_eq_true (by omega);rcases or4 H with ⟨b0,rfl⟩ | ⟨b0,b1,rfl⟩ | ⟨b0,b1,b2,rfl⟩ | ⟨b0,b1,b2,rfl⟩;rotate_right;rw [if_pos z1] at H;have ee1:(x.f0 == 1)=true:=beq_iff_eq.2 z1;rcases or4 H with ⟨b0,rfl⟩ | ⟨b0,b1,rfl⟩ | ⟨b0,b1,b2,rfl⟩ | ⟨b0,b1,b2,rfl⟩;rotate_right;rw [if_pos z0] at H;have ee0:(x.f0 == 0)=true:=beq_iff_eq.2 z0;obtain ⟨t,ht,H⟩:=Option.bind_eq_some_iff.1 H;have HW:=aA.mk ht;clear ht;rcases or4 H with ⟨b0,rfl⟩ | ⟨b0,b1,rfl⟩ | ⟨b0,b1,b2,rfl⟩ | ⟨b0,b1,b2,rfl⟩
     all_goals ((try clear z0);(try clear z1);(try clear z2);(try clear z5);(try clear z6);(try clear z7);(try clear z8);clear cu;go_wp2_with (first|(go_at_call 131;(try simp only [aJ,aK]);(with_reducible refine (bV.calls k x.f1 x.f2 _ _ HW.out).mono ?_);rintro e w' ⟨rfl,⟨nd,rfl⟩⟩;(try exact dd))|(go_at_call 69;(try simp only [aJ,aK]);(with_reducible refine (qO _ _ _ _).mono ?_);rintro e w' ⟨rfl,⟨nd,rfl⟩⟩;(try exact dd)));(repeat (go_quiet (first|(go_at_call 131;(try simp only [aJ,aK]);(with_reducible refine (bV.calls k x.f1 x.f2 _ _ HW.out).mono ?_);rintro e w' ⟨rfl,⟨nd,rfl⟩⟩;(try exact dd))|(go_at_call 69;(try simp only [aJ,aK]);(with_reducible refine (qO _ _ _ _).mono ?_);rintro e w' ⟨rfl,⟨nd,rfl⟩⟩;(try exact dd)));try go_wp2_with (first|(go_at_call 131;(try simp only [aJ,aK]);(with_reducible refine (bV.calls k x.f1 x.f2 _ _ HW.out).mono ?_);rintro e w' ⟨rfl,⟨nd,rfl⟩⟩;(try exact dd))|(go_at_call 69;(try simp only [aJ,aK]);(with_reducible refine (qO _ _ _ _).mono ?_);rintro e w' ⟨rfl,⟨nd,rfl⟩⟩;(try exact dd)))));go_ret;exact ⟨by first|rfl|(simp [*];done),(tb HB)⟩)
def cD.l0:Nat→List (bN)→Int→Option (Bool)
 | 0,_,_=>none
 | k + 1,x0,x3=>if x3 < (x0.length:Int) then ((fP.f k x0 x3).bind fun A4=>(if A4=true then (cD.l0 k x0 (wrap64 (x3 + 1))) else (some false))) else (some true)
def cD.f (k:Nat) (l0:List (bN)):Option (Bool):=(bD.f (l0.length:Int) 1 80).bind fun A3=>(if A3=true then (cD.l0 k l0 0) else (some false))
theorem cD.calls (k:Nat) (A0:Option Addr) (c0:Nat) (l0:List (bN)) (r:Bool) (w:World) (hr0:Kd.C eV w A0 l0.length l0) (hc0:l0.length≤c0) (h:cD.f k l0=some r) :
  Calls Try.prog 104 #[.slice A0 l0.length c0] w fun e w'=>e = .returned (.bool r)∧Below w.heap.size w w':=by
 have HR0:=aA.mk hr0;have HC0:=aA.mk hc0;clear hr0 hc0;have HB:=aA.mk (Below.refl w.heap.size w);have H:((bD.f (l0.length:Int) 1 80).bind fun A3=>(if A3=true then (cD.l0 k l0 0) else (some false)))=some r:=h;clear h;replace H:=ob H;obtain ⟨A3,A20,H⟩:=H;replace H:(if A3=true then (cD.l0 k l0 0) else (some false))=some r:=H;have A2:=aA.mk A20;clear A20
 by_cases c3:A3=true
 ·subst c3
  have H1:(cD.l0 k l0 0)=some r:=by rw [if_pos rfl] at H;exact H
  clear H;have H:=H1;clear H1;have H':=aA.mk H;clear H
  go_enter Try.func104,Try.ntmps104
  go_wp2_with (first|((with_reducible refine aD (f:=69) rfl ?_);refine aT (some 6) rfl rfl Try.func69 (by kernel_rfl) rfl #[.int .i64 (l0.length:Int),.int .i64 1,.int .i64 80] rfl ml ?_;(with_reducible refine (bD.calls (l0.length:Int) 1 80 true _ A2.out).mono ?_);rintro e w' ⟨rfl,⟨nd,rfl⟩⟩;refine ⟨_,rfl,?_⟩))
  go_loopg [3] k (fun kq v3 w'=>∃ (A1:Int),v3 = .int .i64 A1∧aA (cD.l0 kq l0 A1=some r)∧aA (kq≤k)∧aA (Below w.heap.size w w'))
  case atStart=>exact ⟨(0),(by first|rfl|(simp;done)|(simp [*];done)),H',⟨Nat.le_refl _⟩,⟨by exact tb HB⟩⟩
  case round =>
   clear H';obtain ⟨A1,rfl,HA,HK1,HB⟩:=hrel
   cases gk with
   | zero=>exact absurd HA.out (by simp [cD.l0])
   | succ k1 =>
    have H:=HA.out;clear HA;simp only [cD.l0] at H
    by_cases c4:A1 < (l0.length:Int)
    ·rw [if_pos c4] at H;have c4b0:decide (A1 < (l0.length:Int))=true:=decide_eq_true c4;clear c4;replace H:=ob H;obtain ⟨A4,A50,H⟩:=H;replace H:(if A4=true then (cD.l0 k1 l0 (wrap64 (A1 + 1))) else (some false))=some r:=H;have A5:=aA.mk A50;clear A50
     by_cases c6:A4=true
     ·subst c6
      have H1:(cD.l0 k1 l0 (wrap64 (A1 + 1)))=some r:=by rw [if_pos rfl] at H;exact H
      clear H;have H:=H1;clear H1;have H':=aA.mk H;clear H;go_wp2_with (first|((with_reducible refine aD (f:=130) rfl ?_);refine aT (some 16) rfl rfl Try.func130 (by kernel_rfl) rfl #[.slice A0 l0.length c0,.int .i64 A1] rfl ml ?_;(with_reducible refine (fP.calls k1 _ _ l0 A1 true _ ?side1 ?side2 A5.out).mono ?_);(case side1=>exact cw (Kd.C_below HR0.out HB.out));(case side2=>exact HC0.out);rintro e w7 ⟨rfl,hb⟩;refine ⟨_,rfl,?_⟩;replace HB:=aA.mk (aE (tb HB) hb);(try clear hb);(try clear hb2);(try clear hk);(try clear hi)));go_roundg k1
      case measure=>have:=HK1.out;omega
      case rel=>exact ⟨(wrap64 (A1 + 1)),(by first|rfl|(simp;done)|(simp [*];done)),H',⟨by have:=HK1.out;omega⟩,⟨by exact tb HB⟩⟩
     ·replace c6:=Bool.eq_false_iff.mpr c6;subst c6
      have H1:(some false)=some r:=by rw [if_neg (show ¬ (false=true) by decide)] at H;exact H
      clear H;have H:=H1;clear H1;obtain rfl:=os H;go_wp2_with (first|((with_reducible refine aD (f:=130) rfl ?_);refine aT (some 16) rfl rfl Try.func130 (by kernel_rfl) rfl #[.slice A0 l0.length c0,.int .i64 A1] rfl ml ?_;(with_reducible refine (fP.calls k1 _ _ l0 A1 false _ ?side1 ?side2 A5.out).mono ?_);(case side1=>exact cw (Kd.C_below HR0.out HB.out));(case side2=>exact HC0.out);rintro e w8 ⟨rfl,hb⟩;refine ⟨_,rfl,?_⟩;replace HB:=aA.mk (aE (tb HB) hb);(try clear hb);(try clear hb2);(try clear hk);(try clear hi)));go_ret;exact ⟨er,tb HB⟩
    ·rw [if_neg c4] at H;have c4b0:decide (A1 < (l0.length:Int))=false:=decide_eq_false c4;clear c4;obtain rfl:=os H;go_wp2;go_ret;exact ⟨er,tb HB⟩
 ·replace c3:=Bool.eq_false_iff.mpr c3;subst c3
  have H1:(some false)=some r:=by rw [if_neg (show ¬ (false=true) by decide)] at H;exact H
  clear H;have H:=H1;clear H1;obtain rfl:=os H
  go_enter Try.func104,Try.ntmps104
  go_wp2_with (first|((with_reducible refine aD (f:=69) rfl ?_);refine aT (some 6) rfl rfl Try.func69 (by kernel_rfl) rfl #[.int .i64 (l0.length:Int),.int .i64 1,.int .i64 80] rfl ml ?_;(with_reducible refine (bD.calls (l0.length:Int) 1 80 false _ A2.out).mono ?_);rintro e w' ⟨rfl,⟨nd,rfl⟩⟩;refine ⟨_,rfl,?_⟩));go_ret;exact ⟨er,tb HB⟩
mutual
def bC.l0:Nat→List (bN)→List (List Bool)→Int→Option (List Bool)
 | 0,_,_,_=>none
 | k + 1,x0,x3,x4=>if x4 < (x0.length:Int) then (bC.l1 k x0 x3 x4 (([]:List Bool)) 0) else (if 0≤(wrap64 ((x0.length:Int) - 1)) then (if (wrap64 ((x0.length:Int) - 1)) < (x3.length:Int) then (some (fW x3 (wrap64 ((x0.length:Int) - 1)))) else (none)) else (none))
def bC.l1:Nat→List (bN)→List (List Bool)→Int→List Bool→Int→Option (List Bool)
 | 0,_,_,_,_,_=>none
 | k + 1,x0,x3,x4,x5,x6=>if x6 < 8 then (if 0≤x4 then (if x4 < (x0.length:Int) then (if ((aC x0 x4).f0)=1 then (bC.j2 k x0 x3 x4 x5 x6 (((aC x0 x4).f2) == x6)) else (bC.j2 k x0 x3 x4 x5 x6 false)) else (none)) else (none)) else (if x3.length < 5864062014805 then (bC.l0 k x0 (x3 ++ [x5]) (wrap64 (x4 + 1))) else (none))
def bC.j2:Nat→List (bN)→List (List Bool)→Int→List Bool→Int→Bool→Option (List Bool)
 | 0,_,_,_,_,_,_=>none
 | k + 1,x0,x3,x4,x5,x6,x7=>if 0≤x4 then (if x4 < (x0.length:Int) then ((cI.f k ((aC x0 x4).f0) ((aC x0 x4).f1) ((aC x0 x4).f2) ((aC x0 x4).f3) ((aC x0 x4).f4) ((aC x0 x4).f5)).bind fun A6=>(bC.l2 k x0 x3 x4 x5 x6 x7 A6 0)) else (none)) else (none)
def bC.l2:Nat→List (bN)→List (List Bool)→Int→List Bool→Int→Bool→List Int→Int→Option (List Bool)
 | 0,_,_,_,_,_,_,_,_=>none
 | k + 1,x0,x3,x4,x5,x6,x7,x8,x9=>if x9 < (x8.length:Int) then (if x7=true then (bC.l2 k x0 x3 x4 x5 x6 true x8 (wrap64 (x9 + 1))) else (if 0≤x9 then (if 0≤(rd x8 x9) then (if (rd x8 x9) < (x3.length:Int) then (if 0≤x6 then (if x6 < ((fW x3 (rd x8 x9)).length:Int) then (bC.l2 k x0 x3 x4 x5 x6 (cW false (fW x3 (rd x8 x9)) x6) x8 (wrap64 (x9 + 1))) else (none)) else (none)) else (none)) else (none)) else (none))) else (if 0≤x4 then (if x4 < (x0.length:Int) then (if ((aC x0 x4).f0)=19 then (if ((aC x0 x4).f2)=x6 then (if x5.length < 140737488355328 then (bC.l1 k x0 x3 x4 (x5 ++ [false]) (wrap64 (x6 + 1))) else (none)) else (if x5.length < 140737488355328 then (bC.l1 k x0 x3 x4 (x5 ++ [x7]) (wrap64 (x6 + 1))) else (none))) else (if ((aC x0 x4).f0)=20 then (if ((aC x0 x4).f2)=x6 then (if x5.length < 140737488355328 then (bC.l1 k x0 x3 x4 (x5 ++ [false]) (wrap64 (x6 + 1))) else (none)) else (if x5.length < 140737488355328 then (bC.l1 k x0 x3 x4 (x5 ++ [x7]) (wrap64 (x6 + 1))) else (none))) else (if x5.length < 140737488355328 then (bC.l1 k x0 x3 x4 (x5 ++ [x7]) (wrap64 (x6 + 1))) else (none)))) else (none)) else (none))
end
def bC.f (k:Nat) (l0:List (bN)):Option (List Bool):=bC.l0 k l0 (([]:List (List Bool))) 0
theorem bC.calls (k:Nat) (A0:Option Addr) (c0:Nat) (l0:List (bN)) (r:List Bool) (w:World) (hr0:Kd.C eV w A0 l0.length l0) (hc0:l0.length≤c0) (h:bC.f k l0=some r) :
  Calls Try.prog 147 #[.slice A0 l0.length c0] w fun e w'=>∃ v0_:Value,e = .returned (v0_)∧Kd.R Kd.bool 4 w' w.heap.size (fun _=>True) v0_ r∧Below w.heap.size w w':=by
 have hu99:=Try.underlying99;have HR0:=aA.mk hr0;have HC0:=aA.mk hc0;clear hr0 hc0;have HB:=aA.mk (Below.refl w.heap.size w);have H:(bC.l0 k l0 (([]:List (List Bool))) 0)=some r:=h;clear h;obtain ⟨y101,hy101⟩:∃ y_:List (List Bool),y_=(([]:List (List Bool))):=⟨_,rfl⟩;replace H:(bC.l0 k l0 y101 0)=some r:=gM hy101 H;have Ny101:=aA.mk hy101;clear hy101;have H':=aA.mk H;clear H
 go_enter Try.func147,Try.ntmps147
 go_wp2_with (first|((with_reducible refine bM (N:=10) rfl ?_);refine Kd.S_lit (Kd.slice 4 Kd.bool) _ 24 ?hg (N:=10) ?hd (xs:=([]:List (List Bool))) (inner:=[]) (ok:=fun _=>True) (okp:=fun _=>True) ?hr ?hp (fun _ hk=>hk) trivial (Below.refl _ _) (Nat.le_refl _) (by simp) ?_;(case hd=>rfl);(case hg=>rfl);(case hr=>first|(go_simp;done)|(go_simp;rfl));(case hp=>exact (cP.none _ _));intro v102 w2 ho3 hb hg_ hnew_;clear hg_ hnew_;(first|rw [← Ny101.out] at ho3|(simp only [Int.reduceToNat] at ho3;rw [← Ny101.out] at ho3));have Ac:=aA.mk (Kd.S_lower ho3 (aM (tb HB)));replace HB:=aA.mk (aE (tb HB) hb);clear hb ho3))
 go_loopg [3,4] k (fun kq v3 v4 w'=>∃ (A4:List (List Bool)) (A1:Int),v4 = .int .i64 A1∧aA (bC.l0 kq l0 A4 A1=some r)∧aA (kq≤k)∧aA (Kd.S (Kd.slice 4 Kd.bool) 24 w' w.heap.size (fun _=>True) v3 A4)∧aA (Below w.heap.size w w'))
 case atStart=>exact ⟨(y101),(0),(by first|rfl|(simp;done)|(simp [*];done)),H',⟨Nat.le_refl _⟩,⟨by (with_reducible repeat (first|apply Kd.S_alloc|apply Kd.S_drewN|apply Kd.S_drew));exact Ac.out⟩,⟨by exact tb HB⟩⟩
 case round =>
  clear H';obtain ⟨A4,A1,rfl,HA,HK1,A3,HB⟩:=hrel
  cases gk with
  | zero=>exact absurd HA.out (by simp [bC.l0])
  | succ k1 =>
   have H:=HA.out;clear HA;simp only [bC.l0] at H
   by_cases c4:A1 < (l0.length:Int)
   ·rw [if_pos c4] at H;have c4b0:decide (A1 < (l0.length:Int))=true:=decide_eq_true c4;clear c4;obtain ⟨y105,hy105⟩:∃ y_:List Bool,y_=(([]:List Bool)):=⟨_,rfl⟩;replace H:(bC.l1 k1 l0 A4 A1 y105 0)=some r:=gM hy105 H;have Ny105:=aA.mk hy105;clear hy105;have H':=aA.mk H;clear H;go_wp2_with (first|((with_reducible refine bM (N:=17) rfl ?_);refine Kd.R_lit Kd.bool _ 4 ?hg (N:=17) ?hd (xs:=([]:List Bool)) (inner:=[]) (ok:=fun _=>True) (okp:=fun _=>True) ?hr ?hp (fun _ hk=>hk) trivial (Below.refl _ _) (Nat.le_refl _) (by simp) ?_;(case hd=>rfl);(case hg=>rfl);(case hr=>first|(go_simp;done)|(go_simp;rfl));(case hp=>exact (cP.none _ _));intro v106 w5 ho6 hb hg_ hnew_;clear hg_ hnew_;(first|rw [← Ny105.out] at ho6|(simp only [Int.reduceToNat] at ho6;rw [← Ny105.out] at ho6));replace A3:=aA.mk (Kd.S_elder' (by (with_reducible repeat (first|apply Kd.S_alloc|apply Kd.S_drewN|apply Kd.S_drew));exact A3.out) (Kd.R_base ho6) hb);have Ad:=aA.mk (Kd.R_lower ho6 (aM (tb HB)));replace HB:=aA.mk (aE (tb HB) hb);clear hb ho6))
    go_loopg [5,6] k1 (fun kq v5 v6 w'=>∃ (A7:List Bool) (A2:Int),v6 = .int .i64 A2∧aA (bC.l1 kq l0 A4 A1 A7 A2=some r)∧aA (kq≤k1)∧aA (Kd.S (Kd.slice 4 Kd.bool) 24 w' w.heap.size (fun k_=>some k_≠(v5:Value).ownBlock) u3 A4)∧aA (Kd.R Kd.bool 4 w' w.heap.size (fun _=>True) v5 A7)∧aA (Below w.heap.size w w'))
    case atStart=>exact ⟨(y105),(0),(by first|rfl|(simp;done)|(simp [*];done)),H',⟨Nat.le_refl _⟩,⟨by (with_reducible repeat (first|apply Kd.S_alloc|apply Kd.S_drewN|apply Kd.S_drew));exact Kd.S_mono A3.out (fun _ hk=>hk.2)⟩,⟨ra Ad⟩,⟨by exact tb HB⟩⟩
    case round =>
     clear H';obtain ⟨A7,A2,rfl,HA,HK2,A3,A8,HB⟩:=hrel
     cases gk with
     | zero=>exact absurd HA.out (by simp [bC.l1])
     | succ k2 =>
      have H:=HA.out;clear HA;simp only [bC.l1] at H
      by_cases c7:A2 < 8
      ·rw [if_pos c7] at H;have c7b0:decide (A2 < 8)=true:=decide_eq_true c7;clear c7;have HC8:=aA.mk H;clear H
       go_upto_region 9 with (fail)
       go_cut [7] (fun v7 wc=>∃ (kq:Nat) (Ab:Bool),v7 = .bool Ab∧aA (bC.j2 kq l0 A4 A1 A7 A2 Ab=some r)∧aA (kq≤k2)∧aA (Kd.S (Kd.slice 4 Kd.bool) 24 wc w.heap.size (fun k_=>some k_≠(u5:Value).ownBlock) u3 A4)∧aA (Kd.R Kd.bool 4 wc w.heap.size (fun _=>True) u5 A7)∧aA (Below w.heap.size w wc))
       case first =>
        have H:=HC8.out;clear HC8
        by_cases c9:0≤A1
        ·rw [if_pos c9] at H;have c9b0:decide (0≤A1)=true:=decide_eq_true c9;clear c9;(first|rw [c9b0]|(simp only [aJ,aK];rw [c9b0])|skip)
         by_cases c10:A1 < (l0.length:Int)
         ·rw [if_pos c10] at H;have c10b0:decide (A1 < (l0.length:Int))=true:=decide_eq_true c10;clear c10
          by_cases c11:((aC l0 A1).f0)=1
          ·rw [if_pos c11] at H;have c11b0:(((aC l0 A1).f0) == 1)=true:=beq_iff_eq.mpr c11;have c11b1:(((aC l0 A1).f0) != 1)=false:=bne_eq_false_iff_eq.mpr c11;clear c11;have H':=aA.mk H;clear H;have p111:0≤(A1:Int):=od;have q111:A1 < (l0.length:Int):=od;obtain ⟨ad111,e111,hx111_0,hx111_1,hx111_2,hx111_3,hx111_4,hx111_5⟩:=dD HR0.out A1 p111 q111;cases e111;replace hx111_0:=ct HB hx111_0;replace hx111_1:=ct HB hx111_1;replace hx111_2:=ct HB hx111_2;replace hx111_3:=ct HB hx111_3;replace hx111_4:=ct HB hx111_4;replace hx111_5:=ct HB hx111_5;replace p111:=eq_true p111;replace q111:=eq_true q111;have p112:0≤(A1:Int):=od;have q112:A1 < (l0.length:Int):=od;obtain ⟨ad112,e112,hx112_0,hx112_1,hx112_2,hx112_3,hx112_4,hx112_5⟩:=dD HR0.out A1 p112 q112;obtain rfl:ad111=ad112:=(by injection e112);replace hx112_0:=ct HB hx112_0;replace hx112_1:=ct HB hx112_1;replace hx112_2:=ct HB hx112_2;replace hx112_3:=ct HB hx112_3;replace hx112_4:=ct HB hx112_4;replace hx112_5:=ct HB hx112_5;replace p112:=eq_true p112;replace q112:=eq_true q112;go_wp2;go_meet
           case rel=>exact ⟨_,((((aC l0 A1).f2) == A2)),(by first|rfl|(simp;done)|(simp [*];done)),H',⟨by have:=HK1.out;have:=HK2.out;first|omega|exact Nat.le_refl _⟩,⟨by (with_reducible repeat (first|apply Kd.S_alloc|apply Kd.S_drewN|apply Kd.S_drew));exact A3.out⟩,⟨ra A8⟩,⟨by exact tb HB⟩⟩
          ·rw [if_neg c11] at H;have c11b0:(((aC l0 A1).f0) == 1)=false:=beq_eq_false_iff_ne.mpr c11;have c11b1:(((aC l0 A1).f0) != 1)=true:=bne_iff_ne.mpr c11;have H':=aA.mk H;clear H;have p111:0≤(A1:Int):=od;have q111:A1 < (l0.length:Int):=od;obtain ⟨ad111,e111,hx111_0,hx111_1,hx111_2,hx111_3,hx111_4,hx111_5⟩:=dD HR0.out A1 p111 q111;cases e111;replace hx111_0:=ct HB hx111_0;replace hx111_1:=ct HB hx111_1;replace hx111_2:=ct HB hx111_2;replace hx111_3:=ct HB hx111_3;replace hx111_4:=ct HB hx111_4;replace hx111_5:=ct HB hx111_5;replace p111:=eq_true p111;replace q111:=eq_true q111;go_wp2;go_meet
           case rel=>exact ⟨_,(false),(by first|rfl|(simp;done)|(simp [*];done)),H',⟨by have:=HK1.out;have:=HK2.out;first|omega|exact Nat.le_refl _⟩,⟨by (with_reducible repeat (first|apply Kd.S_alloc|apply Kd.S_drewN|apply Kd.S_drew));exact A3.out⟩,⟨ra A8⟩,⟨by exact tb HB⟩⟩
         ·rw [if_neg c10] at H;exact absurd H (by simp)
        ·rw [if_neg c9] at H;exact absurd H (by simp)
       case rest =>
        clear HC8;obtain ⟨kq,Ab,rfl,HA,HJ7,A3,A8,HB⟩:=hcut
        cases kq with
        | zero=>exact absurd HA.out (by simp [bC.j2])
        | succ kj7 =>
         have H:=HA.out;clear HA;simp only [bC.j2] at H
         by_cases c12:0≤A1
         ·rw [if_pos c12] at H;have c12b0:decide (0≤A1)=true:=decide_eq_true c12;clear c12
          by_cases c13:A1 < (l0.length:Int)
          ·rw [if_pos c13] at H;have c13b0:decide (A1 < (l0.length:Int))=true:=decide_eq_true c13;clear c13;replace H:=ob H;obtain ⟨A6,A140,H⟩:=H;replace H:(bC.l2 kj7 l0 A4 A1 A7 A2 Ab A6 0)=some r:=H;have A14:=aA.mk A140;clear A140;have H':=aA.mk H;clear H;have p113:0≤(A1:Int):=od;have q113:A1 < (l0.length:Int):=od;obtain ⟨ad113,e113,hx113_0,hx113_1,hx113_2,hx113_3,hx113_4,hx113_5⟩:=dD HR0.out A1 p113 q113;cases e113;replace hx113_0:=ct HB hx113_0;replace hx113_1:=ct HB hx113_1;replace hx113_2:=ct HB hx113_2;replace hx113_3:=ct HB hx113_3;replace hx113_4:=ct HB hx113_4;replace hx113_5:=ct HB hx113_5;replace p113:=eq_true p113;replace q113:=eq_true q113;go_wp2_with (first|((with_reducible refine aD (f:=99) rfl ?_);refine aT (some 41) rfl rfl Try.func99 (by kernel_rfl) rfl #[.agg #[.int .i64 ((aC l0 A1).f0),.int .i64 ((aC l0 A1).f1),.int .i64 ((aC l0 A1).f2),.int .i64 ((aC l0 A1).f3),.int .i64 ((aC l0 A1).f4),.int .i64 ((aC l0 A1).f5)]] rfl ml ?_;(with_reducible refine (cI.calls kj7 ((aC l0 A1).f0) ((aC l0 A1).f1) ((aC l0 A1).f2) ((aC l0 A1).f3) ((aC l0 A1).f4) ((aC l0 A1).f5) A6 _ A14.out).mono ?_);rintro e w15 ⟨v115,rfl,ho0,hb⟩;refine ⟨_,rfl,?_⟩;replace A3:=aA.mk (Kd.S_below (by (with_reducible repeat (first|apply Kd.S_alloc|apply Kd.S_drewN|apply Kd.S_drew));exact A3.out) hb);replace A8:=aA.mk (Kd.R_below (ra A8) hb);have Ae:=aA.mk (Kd.R_lower ho0 (aM (tb HB)));replace HB:=aA.mk (aE (tb HB) hb);(try clear hb);(try clear hb2);(try clear hk);(try clear hi);(try clear ho0)))
           go_loopg [7,9] kj7 (fun kq v7 v9 w'=>∃ (Aa:Bool) (A5:Int),v7 = .bool Aa∧v9 = .int .i64 A5∧aA (bC.l2 kq l0 A4 A1 A7 A2 Aa A6 A5=some r)∧aA (kq≤kj7)∧aA (Kd.S (Kd.slice 4 Kd.bool) 24 w' w.heap.size (fun k_=>some k_≠(u5:Value).ownBlock) u3 A4)∧aA (Kd.R Kd.bool 4 w' w.heap.size (fun _=>True) u5 A7)∧aA (Kd.R (Kd.int .i64) 3 w' w.heap.size (fun _=>True) v115 A6)∧aA (Below w.heap.size w w'))
           case atStart=>exact ⟨(Ab),(0),(by first|rfl|(simp;done)|(simp [*];done)),(by first|rfl|(simp;done)|(simp [*];done)),H',⟨Nat.le_refl _⟩,⟨by (with_reducible repeat (first|apply Kd.S_alloc|apply Kd.S_drewN|apply Kd.S_drew));exact A3.out⟩,⟨ra A8⟩,⟨ra Ae⟩,⟨by exact tb HB⟩⟩
           case round =>
            clear H';obtain ⟨Aa,A5,rfl,rfl,HA,HK4,A3,A8,A9,HB⟩:=hrel
            cases gk with
            | zero=>exact absurd HA.out (by simp [bC.l2])
            | succ k4 =>
             have H:=HA.out;clear HA;simp only [bC.l2] at H
             by_cases c16:A5 < (A6.length:Int)
             ·rw [if_pos c16] at H;have c16b0:decide (A5 < (A6.length:Int))=true:=decide_eq_true c16;clear c16
              by_cases c17:Aa=true
              ·subst c17
               have H1:(bC.l2 k4 l0 A4 A1 A7 A2 true A6 (wrap64 (A5 + 1)))=some r:=by rw [if_pos rfl] at H;exact H
               clear H;have H:=H1;clear H1;have H':=aA.mk H;clear H;obtain ⟨Ao18,co18,eo18⟩:=Kd.R_slice A9.out;subst eo18;go_wp2;go_roundg k4
               case measure=>have:=HK1.out;have:=HK2.out;have:=HJ7.out;have:=HK4.out;omega
               case rel=>exact ⟨(true),(wrap64 (A5 + 1)),(by first|rfl|(simp;done)|(simp [*];done)),(by first|rfl|(simp;done)|(simp [*];done)),H',⟨by have:=HK1.out;have:=HK2.out;have:=HJ7.out;have:=HK4.out;omega⟩,⟨by (with_reducible repeat (first|apply Kd.S_alloc|apply Kd.S_drewN|apply Kd.S_drew));exact A3.out⟩,⟨ra A8⟩,⟨ra A9⟩,⟨by exact tb HB⟩⟩
              ·replace c17:=Bool.eq_false_iff.mpr c17;subst c17
               have H1:(if 0≤A5 then (if 0≤(rd A6 A5) then (if (rd A6 A5) < (A4.length:Int) then (if 0≤A2 then (if A2 < ((fW A4 (rd A6 A5)).length:Int) then (bC.l2 k4 l0 A4 A1 A7 A2 (cW false (fW A4 (rd A6 A5)) A2) A6 (wrap64 (A5 + 1))) else (none)) else (none)) else (none)) else (none)) else (none))=some r:=by rw [if_neg (show ¬ (false=true) by decide)] at H;exact H
               clear H;have H:=H1;clear H1
               by_cases c19:0≤A5
               ·rw [if_pos c19] at H;have c19b0:decide (0≤A5)=true:=decide_eq_true c19;clear c19
                by_cases c20:0≤(rd A6 A5)
                ·rw [if_pos c20] at H;have c20b0:decide (0≤(rd A6 A5))=true:=decide_eq_true c20;clear c20
                 by_cases c21:(rd A6 A5) < (A4.length:Int)
                 ·rw [if_pos c21] at H;have c21b0:decide ((rd A6 A5) < (A4.length:Int))=true:=decide_eq_true c21;clear c21
                  by_cases c22:0≤A2
                  ·rw [if_pos c22] at H;have c22b0:decide (0≤A2)=true:=decide_eq_true c22;clear c22
                   by_cases c23:A2 < ((fW A4 (rd A6 A5)).length:Int)
                   ·rw [if_pos c23] at H;have c23b0:decide (A2 < ((fW A4 (rd A6 A5)).length:Int))=true:=decide_eq_true c23;clear c23;have H':=aA.mk H;clear H;obtain ⟨Ao24,co24,eo24⟩:=Kd.R_slice A9.out;subst eo24;have p117:0≤(A5:Int):=od;have q117:A5 < (A6.length:Int):=od;obtain ⟨ad117,e117,hx117_0⟩:=Kd.at_int (Kd.R_reads' A9.out).2.2 A5 p117 q117;cases e117;replace p117:=eq_true p117;replace q117:=eq_true q117;obtain ⟨Ao25,co25,eo25⟩:=Kd.S_slice A3.out;subst eo25;have p118:0≤((rd A6 A5):Int):=od;have q118:(rd A6 A5) < (A4.length:Int):=od;obtain ⟨ad118,A118_0,c118_0,e118,hx118_0,hl118_0,hi118_0⟩:=vS (Kd.S_reads' A3.out).2.2 (rd A6 A5) p118 q118;cases e118;obtain ⟨ce118,hce118,hMe118,hcc118⟩:=Kd.S_get A3.out [] (rd A6 A5) p118 (by first|exact q118|exact od|(have e_:=(Kd.S_reads' A3.out).1;omega));obtain ⟨ve118_0,rfl,ge118_0⟩:=hMe118;have hv118_0:=hcc118 0 _ rfl;rw [Nat.add_zero,show ((Kd.slice 4 Kd.bool)).sz=1 from rfl,Nat.mul_one] at hv118_0;replace hv118_0:=Option.some.inj (hv118_0.symm.trans hx118_0);rw [hv118_0] at ge118_0;have HL118_0:=aA.mk (show Kd.R Kd.bool 4 _ _ _ _ (fW A4 (rd A6 A5)) from ge118_0);clear hv118_0 ge118_0;clear hcc118 hce118;have HR118_0:=aA.mk hi118_0;have HC118_0:=aA.mk hl118_0;clear hi118_0 hl118_0;replace p118:=eq_true p118;replace q118:=eq_true q118;have p119:0≤(A2:Int):=od;have q119:A2 < ((fW A4 (rd A6 A5)).length:Int):=od;obtain ⟨ad119,e119,hx119_0⟩:=Kd.at_bool (by repeat (first|(with_reducible exact HR118_0.out)|(with_reducible refine Kd.C_alloc ?_ _)|(with_reducible refine Kd.C_drewN ?_ _)|(with_reducible refine Kd.C_drew ?_)|exact HR118_0.out)) A2 p119 q119;cases e119;replace p119:=eq_true p119;replace q119:=eq_true q119;go_wp2;go_roundg k4
                    case measure=>have:=HK1.out;have:=HK2.out;have:=HJ7.out;have:=HK4.out;omega
                    case rel=>exact ⟨(cW false (fW A4 (rd A6 A5)) A2),(wrap64 (A5 + 1)),(by first|rfl|(simp;done)|(simp [*];done)),(by first|rfl|(simp;done)|(simp [*];done)),H',⟨by have:=HK1.out;have:=HK2.out;have:=HJ7.out;have:=HK4.out;omega⟩,⟨by (with_reducible repeat (first|apply Kd.S_alloc|apply Kd.S_drewN|apply Kd.S_drew));exact A3.out⟩,⟨ra A8⟩,⟨ra A9⟩,⟨by exact tb HB⟩⟩
                   ·rw [if_neg c23] at H;exact absurd H (by simp)
                  ·rw [if_neg c22] at H;exact absurd H (by simp)
                 ·rw [if_neg c21] at H;exact absurd H (by simp)
                ·rw [if_neg c20] at H;exact absurd H (by simp)
               ·rw [if_neg c19] at H;exact absurd H (by simp)
             ·rw [if_neg c16] at H;have c16b0:decide (A5 < (A6.length:Int))=false:=decide_eq_false c16;clear c16
              by_cases c26:0≤A1
              ·rw [if_pos c26] at H;have c26b0:decide (0≤A1)=true:=decide_eq_true c26;clear c26
               by_cases c27:A1 < (l0.length:Int)
               ·rw [if_pos c27] at H;have c27b0:decide (A1 < (l0.length:Int))=true:=decide_eq_true c27;clear c27
                by_cases c28:((aC l0 A1).f0)=19
                ·rw [if_pos c28] at H;have c28b0:(((aC l0 A1).f0) == 19)=true:=beq_iff_eq.mpr c28;have c28b1:(((aC l0 A1).f0) != 19)=false:=bne_eq_false_iff_eq.mpr c28;clear c28
                 by_cases c29:((aC l0 A1).f2)=A2
                 ·rw [if_pos c29] at H;have c29b0:(((aC l0 A1).f2) == A2)=true:=beq_iff_eq.mpr c29;have c29b1:(((aC l0 A1).f2) != A2)=false:=bne_eq_false_iff_eq.mpr c29;clear c29
                  by_cases c30:A7.length < 140737488355328
                  ·rw [if_pos c30] at H;have LMc30:=aA.mk c30;clear c30;obtain ⟨y122,hy122⟩:∃ y_:List Bool,y_=(A7 ++ [false]):=⟨_,rfl⟩;replace H:(bC.l1 k4 l0 A4 A1 y122 (wrap64 (A2 + 1)))=some r:=gM hy122 H;have Ny122:=aA.mk hy122;clear hy122;have H':=aA.mk H;clear H;obtain ⟨Ao31,co31,eo31⟩:=Kd.R_slice A9.out;subst eo31;have p120:0≤(A1:Int):=od;have q120:A1 < (l0.length:Int):=od;obtain ⟨ad120,e120,hx120_0,hx120_1,hx120_2,hx120_3,hx120_4,hx120_5⟩:=dD HR0.out A1 p120 q120;obtain rfl:ad113=ad120:=(by injection e120);replace hx120_0:=ct HB hx120_0;replace hx120_1:=ct HB hx120_1;replace hx120_2:=ct HB hx120_2;replace hx120_3:=ct HB hx120_3;replace hx120_4:=ct HB hx120_4;replace hx120_5:=ct HB hx120_5;replace p120:=eq_true p120;replace q120:=eq_true q120;have p121:0≤(A1:Int):=od;have q121:A1 < (l0.length:Int):=od;obtain ⟨ad121,e121,hx121_0,hx121_1,hx121_2,hx121_3,hx121_4,hx121_5⟩:=dD HR0.out A1 p121 q121;obtain rfl:ad113=ad121:=(by injection e121);replace hx121_0:=ct HB hx121_0;replace hx121_1:=ct HB hx121_1;replace hx121_2:=ct HB hx121_2;replace hx121_3:=ct HB hx121_3;replace hx121_4:=ct HB hx121_4;replace hx121_5:=ct HB hx121_5;replace p121:=eq_true p121;replace q121:=eq_true q121;go_wp2_with (first|((with_reducible refine cM (b := .append) (xs:=#[.tmp 84,.tmp 86]) rfl ?_);at_builtin;refine Kd.R_append Kd.bool (w0:=w) w.heap.size rfl (.tmp 84) (.tmp 86) 24 4 (.bool false) 1 rfl Try.underlying24 mB rfl (by decide) (by omega) u5 A7 false [.bool false] (fun _=>True) (fun _=>False) rfl rfl ?aP (fun _ hk=>hk.elim) ?aF ?aO ?aB ?aS ?aL ?_;(case aP=>exact rfl);(case aB=>exact (tb HB));(case aF=>exact (fun _ _=>trivial));(case aO=>exact (ra A8));(case aS=>exact (aM (tb HB)));(case aL=>have:=LMc30.out;omega);intro v123 w32 ho hb hg hat;rw [← Ny122.out] at ho;replace A3:=aA.mk (Kd.S_after (ok:=(fun _=>True)) (by (with_reducible repeat (first|apply Kd.S_alloc|apply Kd.S_drewN|apply Kd.S_drew));exact Kd.S_mono A3.out (fun _ hk=>⟨trivial,hk⟩)) hg hat);replace A9:=aA.mk (Kd.R_over' (ra A9) (Kd.R_typed (ra A8)) (by decide) hg);replace HB:=aA.mk (hb);have Af:=aA.mk (ho);clear A8;clear ho hb hg hat));go_roundg k4
                   case measure=>have:=HK1.out;have:=HK2.out;have:=HJ7.out;have:=HK4.out;omega
                   case rel=>exact ⟨(y122),(wrap64 (A2 + 1)),(by first|rfl|(simp;done)|(simp [*];done)),H',⟨by have:=HK1.out;have:=HK2.out;have:=HJ7.out;have:=HK4.out;omega⟩,⟨by (with_reducible repeat (first|apply Kd.S_alloc|apply Kd.S_drewN|apply Kd.S_drew));exact Kd.S_mono A3.out (fun _ hk=>hk.2)⟩,⟨ra Af⟩,⟨by exact tb HB⟩⟩
                  ·rw [if_neg c30] at H;exact absurd H (by simp)
                 ·rw [if_neg c29] at H;have c29b0:(((aC l0 A1).f2) == A2)=false:=beq_eq_false_iff_ne.mpr c29;have c29b1:(((aC l0 A1).f2) != A2)=true:=bne_iff_ne.mpr c29
                  by_cases c33:A7.length < 140737488355328
                  ·rw [if_pos c33] at H;have LMc33:=aA.mk c33;clear c33;obtain ⟨y125,hy125⟩:∃ y_:List Bool,y_=(A7 ++ [Aa]):=⟨_,rfl⟩;replace H:(bC.l1 k4 l0 A4 A1 y125 (wrap64 (A2 + 1)))=some r:=gM hy125 H;have Ny125:=aA.mk hy125;clear hy125;have H':=aA.mk H;clear H;obtain ⟨Ao34,co34,eo34⟩:=Kd.R_slice A9.out;subst eo34;have p120:0≤(A1:Int):=od;have q120:A1 < (l0.length:Int):=od;obtain ⟨ad120,e120,hx120_0,hx120_1,hx120_2,hx120_3,hx120_4,hx120_5⟩:=dD HR0.out A1 p120 q120;obtain rfl:ad113=ad120:=(by injection e120);replace hx120_0:=ct HB hx120_0;replace hx120_1:=ct HB hx120_1;replace hx120_2:=ct HB hx120_2;replace hx120_3:=ct HB hx120_3;replace hx120_4:=ct HB hx120_4;replace hx120_5:=ct HB hx120_5;replace p120:=eq_true p120;replace q120:=eq_true q120;have p121:0≤(A1:Int):=od;have q121:A1 < (l0.length:Int):=od;obtain ⟨ad121,e121,hx121_0,hx121_1,hx121_2,hx121_3,hx121_4,hx121_5⟩:=dD HR0.out A1 p121 q121;obtain rfl:ad113=ad121:=(by injection e121);replace hx121_0:=ct HB hx121_0;replace hx121_1:=ct HB hx121_1;replace hx121_2:=ct HB hx121_2;replace hx121_3:=ct HB hx121_3;replace hx121_4:=ct HB hx121_4;replace hx121_5:=ct HB hx121_5;replace p121:=eq_true p121;replace q121:=eq_true q121;go_wp2_with (first|((with_reducible refine cM (b := .append) (xs:=#[.tmp 84,.tmp 86]) rfl ?_);at_builtin;refine Kd.R_append Kd.bool (w0:=w) w.heap.size rfl (.tmp 84) (.tmp 86) 24 4 (.bool false) 1 rfl Try.underlying24 mB rfl (by decide) (by omega) u5 A7 Aa [.bool Aa] (fun _=>True) (fun _=>False) rfl rfl ?aP (fun _ hk=>hk.elim) ?aF ?aO ?aB ?aS ?aL ?_;(case aP=>exact rfl);(case aB=>exact (tb HB));(case aF=>exact (fun _ _=>trivial));(case aO=>exact (ra A8));(case aS=>exact (aM (tb HB)));(case aL=>have:=LMc33.out;omega);intro v126 w35 ho hb hg hat;rw [← Ny125.out] at ho;replace A3:=aA.mk (Kd.S_after (ok:=(fun _=>True)) (by (with_reducible repeat (first|apply Kd.S_alloc|apply Kd.S_drewN|apply Kd.S_drew));exact Kd.S_mono A3.out (fun _ hk=>⟨trivial,hk⟩)) hg hat);replace A9:=aA.mk (Kd.R_over' (ra A9) (Kd.R_typed (ra A8)) (by decide) hg);replace HB:=aA.mk (hb);have Ag:=aA.mk (ho);clear A8;clear ho hb hg hat));go_roundg k4
                   case measure=>have:=HK1.out;have:=HK2.out;have:=HJ7.out;have:=HK4.out;omega
                   case rel=>exact ⟨(y125),(wrap64 (A2 + 1)),(by first|rfl|(simp;done)|(simp [*];done)),H',⟨by have:=HK1.out;have:=HK2.out;have:=HJ7.out;have:=HK4.out;omega⟩,⟨by (with_reducible repeat (first|apply Kd.S_alloc|apply Kd.S_drewN|apply Kd.S_drew));exact Kd.S_mono A3.out (fun _ hk=>hk.2)⟩,⟨ra Ag⟩,⟨by exact tb HB⟩⟩
                  ·rw [if_neg c33] at H;exact absurd H (by simp)
                ·rw [if_neg c28] at H;have c28b0:(((aC l0 A1).f0) == 19)=false:=beq_eq_false_iff_ne.mpr c28;have c28b1:(((aC l0 A1).f0) != 19)=true:=bne_iff_ne.mpr c28
                 by_cases c36:((aC l0 A1).f0)=20
                 ·rw [if_pos c36] at H;have c36b0:(((aC l0 A1).f0) == 20)=true:=beq_iff_eq.mpr c36;have c36b1:(((aC l0 A1).f0) != 20)=false:=bne_eq_false_iff_eq.mpr c36;clear c36
                  by_cases c37:((aC l0 A1).f2)=A2
                  ·rw [if_pos c37] at H;have c37b0:(((aC l0 A1).f2) == A2)=true:=beq_iff_eq.mpr c37;have c37b1:(((aC l0 A1).f2) != A2)=false:=bne_eq_false_iff_eq.mpr c37;clear c37
                   by_cases c38:A7.length < 140737488355328
                   ·rw [if_pos c38] at H;have LMc38:=aA.mk c38;clear c38;obtain ⟨y130,hy130⟩:∃ y_:List Bool,y_=(A7 ++ [false]):=⟨_,rfl⟩;replace H:(bC.l1 k4 l0 A4 A1 y130 (wrap64 (A2 + 1)))=some r:=gM hy130 H;have Ny130:=aA.mk hy130;clear hy130;have H':=aA.mk H;clear H;obtain ⟨Ao39,co39,eo39⟩:=Kd.R_slice A9.out;subst eo39;have p120:0≤(A1:Int):=od;have q120:A1 < (l0.length:Int):=od;obtain ⟨ad120,e120,hx120_0,hx120_1,hx120_2,hx120_3,hx120_4,hx120_5⟩:=dD HR0.out A1 p120 q120;obtain rfl:ad113=ad120:=(by injection e120);replace hx120_0:=ct HB hx120_0;replace hx120_1:=ct HB hx120_1;replace hx120_2:=ct HB hx120_2;replace hx120_3:=ct HB hx120_3;replace hx120_4:=ct HB hx120_4;replace hx120_5:=ct HB hx120_5;replace p120:=eq_true p120;replace q120:=eq_true q120;have p128:0≤(A1:Int):=od;have q128:A1 < (l0.length:Int):=od;obtain ⟨ad128,e128,hx128_0,hx128_1,hx128_2,hx128_3,hx128_4,hx128_5⟩:=dD HR0.out A1 p128 q128;obtain rfl:ad113=ad128:=(by injection e128);replace hx128_0:=ct HB hx128_0;replace hx128_1:=ct HB hx128_1;replace hx128_2:=ct HB hx128_2;replace hx128_3:=ct HB hx128_3;replace hx128_4:=ct HB hx128_4;replace hx128_5:=ct HB hx128_5;replace p128:=eq_true p128;replace q128:=eq_true q128;have p129:0≤(A1:Int):=od;have q129:A1 < (l0.length:Int):=od;obtain ⟨ad129,e129,hx129_0,hx129_1,hx129_2,hx129_3,hx129_4,hx129_5⟩:=dD HR0.out A1 p129 q129;obtain rfl:ad113=ad129:=(by injection e129);replace hx129_0:=ct HB hx129_0;replace hx129_1:=ct HB hx129_1;replace hx129_2:=ct HB hx129_2;replace hx129_3:=ct HB hx129_3;replace hx129_4:=ct HB hx129_4;replace hx129_5:=ct HB hx129_5;replace p129:=eq_true p129;replace q129:=eq_true q129;go_wp2_with (first|((with_reducible refine cM (b := .append) (xs:=#[.tmp 84,.tmp 86]) rfl ?_);at_builtin;refine Kd.R_append Kd.bool (w0:=w) w.heap.size rfl (.tmp 84) (.tmp 86) 24 4 (.bool false) 1 rfl Try.underlying24 mB rfl (by decide) (by omega) u5 A7 false [.bool false] (fun _=>True) (fun _=>False) rfl rfl ?aP (fun _ hk=>hk.elim) ?aF ?aO ?aB ?aS ?aL ?_;(case aP=>exact rfl);(case aB=>exact (tb HB));(case aF=>exact (fun _ _=>trivial));(case aO=>exact (ra A8));(case aS=>exact (aM (tb HB)));(case aL=>have:=LMc38.out;omega);intro v131 w40 ho hb hg hat;rw [← Ny130.out] at ho;replace A3:=aA.mk (Kd.S_after (ok:=(fun _=>True)) (by (with_reducible repeat (first|apply Kd.S_alloc|apply Kd.S_drewN|apply Kd.S_drew));exact Kd.S_mono A3.out (fun _ hk=>⟨trivial,hk⟩)) hg hat);replace A9:=aA.mk (Kd.R_over' (ra A9) (Kd.R_typed (ra A8)) (by decide) hg);replace HB:=aA.mk (hb);have Ah:=aA.mk (ho);clear A8;clear ho hb hg hat));go_roundg k4
                    case measure=>have:=HK1.out;have:=HK2.out;have:=HJ7.out;have:=HK4.out;omega
                    case rel=>exact ⟨(y130),(wrap64 (A2 + 1)),(by first|rfl|(simp;done)|(simp [*];done)),H',⟨by have:=HK1.out;have:=HK2.out;have:=HJ7.out;have:=HK4.out;omega⟩,⟨by (with_reducible repeat (first|apply Kd.S_alloc|apply Kd.S_drewN|apply Kd.S_drew));exact Kd.S_mono A3.out (fun _ hk=>hk.2)⟩,⟨ra Ah⟩,⟨by exact tb HB⟩⟩
                   ·rw [if_neg c38] at H;exact absurd H (by simp)
                  ·rw [if_neg c37] at H;have c37b0:(((aC l0 A1).f2) == A2)=false:=beq_eq_false_iff_ne.mpr c37;have c37b1:(((aC l0 A1).f2) != A2)=true:=bne_iff_ne.mpr c37
                   by_cases c41:A7.length < 140737488355328
                   ·rw [if_pos c41] at H;have LMc41:=aA.mk c41;clear c41;obtain ⟨y133,hy133⟩:∃ y_:List Bool,y_=(A7 ++ [Aa]):=⟨_,rfl⟩;replace H:(bC.l1 k4 l0 A4 A1 y133 (wrap64 (A2 + 1)))=some r:=gM hy133 H;have Ny133:=aA.mk hy133;clear hy133;have H':=aA.mk H;clear H;obtain ⟨Ao42,co42,eo42⟩:=Kd.R_slice A9.out;subst eo42;have p120:0≤(A1:Int):=od;have q120:A1 < (l0.length:Int):=od;obtain ⟨ad120,e120,hx120_0,hx120_1,hx120_2,hx120_3,hx120_4,hx120_5⟩:=dD HR0.out A1 p120 q120;obtain rfl:ad113=ad120:=(by injection e120);replace hx120_0:=ct HB hx120_0;replace hx120_1:=ct HB hx120_1;replace hx120_2:=ct HB hx120_2;replace hx120_3:=ct HB hx120_3;replace hx120_4:=ct HB hx120_4;replace hx120_5:=ct HB hx120_5;replace p120:=eq_true p120;replace q120:=eq_true q120;have p128:0≤(A1:Int):=od;have q128:A1 < (l0.length:Int):=od;obtain ⟨ad128,e128,hx128_0,hx128_1,hx128_2,hx128_3,hx128_4,hx128_5⟩:=dD HR0.out A1 p128 q128;obtain rfl:ad113=ad128:=(by injection e128);replace hx128_0:=ct HB hx128_0;replace hx128_1:=ct HB hx128_1;replace hx128_2:=ct HB hx128_2;replace hx128_3:=ct HB hx128_3;replace hx128_4:=ct HB hx128_4;replace hx128_5:=ct HB hx128_5;replace p128:=eq_true p128;replace q128:=eq_true q128;have p129:0≤(A1:Int):=od;have q129:A1 < (l0.length:Int):=od;obtain ⟨ad129,e129,hx129_0,hx129_1,hx129_2,hx129_3,hx129_4,hx129_5⟩:=dD HR0.out A1 p129 q129;obtain rfl:ad113=ad129:=(by injection e129);replace hx129_0:=ct HB hx129_0;replace hx129_1:=ct HB hx129_1;replace hx129_2:=ct HB hx129_2;replace hx129_3:=ct HB hx129_3;replace hx129_4:=ct HB hx129_4;replace hx129_5:=ct HB hx129_5;replace p129:=eq_true p129;replace q129:=eq_true q129;go_wp2_with (first|((with_reducible refine cM (b := .append) (xs:=#[.tmp 84,.tmp 86]) rfl ?_);at_builtin;refine Kd.R_append Kd.bool (w0:=w) w.heap.size rfl (.tmp 84) (.tmp 86) 24 4 (.bool false) 1 rfl Try.underlying24 mB rfl (by decide) (by omega) u5 A7 Aa [.bool Aa] (fun _=>True) (fun _=>False) rfl rfl ?aP (fun _ hk=>hk.elim) ?aF ?aO ?aB ?aS ?aL ?_;(case aP=>exact rfl);(case aB=>exact (tb HB));(case aF=>exact (fun _ _=>trivial));(case aO=>exact (ra A8));(case aS=>exact (aM (tb HB)));(case aL=>have:=LMc41.out;omega);intro v134 w43 ho hb hg hat;rw [← Ny133.out] at ho;replace A3:=aA.mk (Kd.S_after (ok:=(fun _=>True)) (by (with_reducible repeat (first|apply Kd.S_alloc|apply Kd.S_drewN|apply Kd.S_drew));exact Kd.S_mono A3.out (fun _ hk=>⟨trivial,hk⟩)) hg hat);replace A9:=aA.mk (Kd.R_over' (ra A9) (Kd.R_typed (ra A8)) (by decide) hg);replace HB:=aA.mk (hb);have Ai:=aA.mk (ho);clear A8;clear ho hb hg hat));go_roundg k4
                    case measure=>have:=HK1.out;have:=HK2.out;have:=HJ7.out;have:=HK4.out;omega
                    case rel=>exact ⟨(y133),(wrap64 (A2 + 1)),(by first|rfl|(simp;done)|(simp [*];done)),H',⟨by have:=HK1.out;have:=HK2.out;have:=HJ7.out;have:=HK4.out;omega⟩,⟨by (with_reducible repeat (first|apply Kd.S_alloc|apply Kd.S_drewN|apply Kd.S_drew));exact Kd.S_mono A3.out (fun _ hk=>hk.2)⟩,⟨ra Ai⟩,⟨by exact tb HB⟩⟩
                   ·rw [if_neg c41] at H;exact absurd H (by simp)
                 ·rw [if_neg c36] at H;have c36b0:(((aC l0 A1).f0) == 20)=false:=beq_eq_false_iff_ne.mpr c36;have c36b1:(((aC l0 A1).f0) != 20)=true:=bne_iff_ne.mpr c36
                  by_cases c44:A7.length < 140737488355328
                  ·rw [if_pos c44] at H;have LMc44:=aA.mk c44;clear c44;obtain ⟨y136,hy136⟩:∃ y_:List Bool,y_=(A7 ++ [Aa]):=⟨_,rfl⟩;replace H:(bC.l1 k4 l0 A4 A1 y136 (wrap64 (A2 + 1)))=some r:=gM hy136 H;have Ny136:=aA.mk hy136;clear hy136;have H':=aA.mk H;clear H;obtain ⟨Ao45,co45,eo45⟩:=Kd.R_slice A9.out;subst eo45;have p120:0≤(A1:Int):=od;have q120:A1 < (l0.length:Int):=od;obtain ⟨ad120,e120,hx120_0,hx120_1,hx120_2,hx120_3,hx120_4,hx120_5⟩:=dD HR0.out A1 p120 q120;obtain rfl:ad113=ad120:=(by injection e120);replace hx120_0:=ct HB hx120_0;replace hx120_1:=ct HB hx120_1;replace hx120_2:=ct HB hx120_2;replace hx120_3:=ct HB hx120_3;replace hx120_4:=ct HB hx120_4;replace hx120_5:=ct HB hx120_5;replace p120:=eq_true p120;replace q120:=eq_true q120;have p128:0≤(A1:Int):=od;have q128:A1 < (l0.length:Int):=od;obtain ⟨ad128,e128,hx128_0,hx128_1,hx128_2,hx128_3,hx128_4,hx128_5⟩:=dD HR0.out A1 p128 q128;obtain rfl:ad113=ad128:=(by injection e128);replace hx128_0:=ct HB hx128_0;replace hx128_1:=ct HB hx128_1;replace hx128_2:=ct HB hx128_2;replace hx128_3:=ct HB hx128_3;replace hx128_4:=ct HB hx128_4;replace hx128_5:=ct HB hx128_5;replace p128:=eq_true p128;replace q128:=eq_true q128;go_wp2_with (first|((with_reducible refine cM (b := .append) (xs:=#[.tmp 84,.tmp 86]) rfl ?_);at_builtin;refine Kd.R_append Kd.bool (w0:=w) w.heap.size rfl (.tmp 84) (.tmp 86) 24 4 (.bool false) 1 rfl Try.underlying24 mB rfl (by decide) (by omega) u5 A7 Aa [.bool Aa] (fun _=>True) (fun _=>False) rfl rfl ?aP (fun _ hk=>hk.elim) ?aF ?aO ?aB ?aS ?aL ?_;(case aP=>exact rfl);(case aB=>exact (tb HB));(case aF=>exact (fun _ _=>trivial));(case aO=>exact (ra A8));(case aS=>exact (aM (tb HB)));(case aL=>have:=LMc44.out;omega);intro v137 w46 ho hb hg hat;rw [← Ny136.out] at ho;replace A3:=aA.mk (Kd.S_after (ok:=(fun _=>True)) (by (with_reducible repeat (first|apply Kd.S_alloc|apply Kd.S_drewN|apply Kd.S_drew));exact Kd.S_mono A3.out (fun _ hk=>⟨trivial,hk⟩)) hg hat);replace A9:=aA.mk (Kd.R_over' (ra A9) (Kd.R_typed (ra A8)) (by decide) hg);replace HB:=aA.mk (hb);have Aj:=aA.mk (ho);clear A8;clear ho hb hg hat));go_roundg k4
                   case measure=>have:=HK1.out;have:=HK2.out;have:=HJ7.out;have:=HK4.out;omega
                   case rel=>exact ⟨(y136),(wrap64 (A2 + 1)),(by first|rfl|(simp;done)|(simp [*];done)),H',⟨by have:=HK1.out;have:=HK2.out;have:=HJ7.out;have:=HK4.out;omega⟩,⟨by (with_reducible repeat (first|apply Kd.S_alloc|apply Kd.S_drewN|apply Kd.S_drew));exact Kd.S_mono A3.out (fun _ hk=>hk.2)⟩,⟨ra Aj⟩,⟨by exact tb HB⟩⟩
                  ·rw [if_neg c44] at H;exact absurd H (by simp)
               ·rw [if_neg c27] at H;exact absurd H (by simp)
              ·rw [if_neg c26] at H;exact absurd H (by simp)
          ·rw [if_neg c13] at H;exact absurd H (by simp)
         ·rw [if_neg c12] at H;exact absurd H (by simp)
      ·rw [if_neg c7] at H;have c7b0:decide (A2 < 8)=false:=decide_eq_false c7;clear c7
       by_cases c47:A4.length < 5864062014805
       ·rw [if_pos c47] at H;have LMc47:=aA.mk c47;clear c47;obtain ⟨y108,hy108⟩:∃ y_:List (List Bool),y_=(A4 ++ [A7]):=⟨_,rfl⟩;replace H:(bC.l0 k2 l0 y108 (wrap64 (A1 + 1)))=some r:=gM hy108 H;have Ny108:=aA.mk hy108;clear hy108;have H':=aA.mk H;clear H;obtain ⟨Ak,Al,eo49⟩:=Kd.R_slice A8.out;subst eo49;go_wp2_with (first|((with_reducible refine cM (b := .append) (xs:=#[.tmp 88,.tmp 90]) rfl ?_);at_builtin;refine Kd.S_append (Kd.slice 4 Kd.bool) (w0:=w) w.heap.size rfl (.tmp 88) (.tmp 90) 149 24 (.slice none 0 0) 24 rfl Try.underlying149 aBQ rfl (by decide) (by omega) u3 A4 A7 [.slice Ak A7.length Al] (fun _=>True) (fun k_=>some k_=(.slice Ak A7.length Al:Value).ownBlock) rfl rfl ?aP (fun k_ hk_=>((Kd.R_mono (ok':=fun k_=>((fun _=>True)) k_∧some k_≠(u3:Value).ownBlock) (Kd.R_apart' (A8.out) (Kd.S_typed A3.out) (by decide)) (fun k_ hk=>⟨trivial,hk.2⟩))).1 k_ hk_.symm) ?aF ?aO ?aB ?aS ?aL ?_;(case aP=>exact Kd.M_row (Kd.R_mono (Kd.R_tight rfl (Kd.R_mono (ok':=fun k_=>((fun _=>True)) k_∧some k_≠(u3:Value).ownBlock) (Kd.R_apart' (A8.out) (Kd.S_typed A3.out) (by decide)) (fun k_ hk=>⟨trivial,hk.2⟩))) (fun _ h_=>h_)));(case aB=>exact (tb HB));(case aF=>exact (fun _ _=>trivial));(case aO=>exact (by (with_reducible repeat (first|apply Kd.S_alloc|apply Kd.S_drewN|apply Kd.S_drew));exact Kd.S_mono A3.out (fun k_ hk=>⟨trivial,fun e_=>hk e_⟩)));(case aS=>exact (aM (tb HB)));(case aL=>have:=LMc47.out;omega);intro v109 w48 ho hb hg hat;rw [← Ny108.out] at ho;replace HB:=aA.mk (hb);have Am:=aA.mk (ho);clear A3 A8;clear ho hb hg hat));go_roundg k2
        case measure=>have:=HK1.out;have:=HK2.out;omega
        case rel=>exact ⟨(y108),(wrap64 (A1 + 1)),(by first|rfl|(simp;done)|(simp [*];done)),H',⟨by have:=HK1.out;have:=HK2.out;omega⟩,⟨by (with_reducible repeat (first|apply Kd.S_alloc|apply Kd.S_drewN|apply Kd.S_drew));exact Am.out⟩,⟨by exact tb HB⟩⟩
       ·rw [if_neg c47] at H;exact absurd H (by simp)
   ·rw [if_neg c4] at H;have c4b0:decide (A1 < (l0.length:Int))=false:=decide_eq_false c4;clear c4;obtain ⟨ji50,hji50⟩:∃ j_:Int,(wrap64 ((l0.length:Int) - 1))=j_:=⟨_,rfl⟩
    replace H:(if 0≤(ji50) then (if (ji50) < (A4.length:Int) then (some (fW A4 (ji50))) else (none)) else (none))=some r:=by first|(rw [hji50] at H;exact H)|(simp only [hji50] at H ⊢;exact H)
    have hji50w:(IntKind.i64.wrap ((l0.length:Int) - 1))=ji50:=(aJ _).trans hji50
    by_cases c51:0≤(ji50)
    ·rw [if_pos c51] at H;have c51b0:decide (0≤(ji50))=true:=decide_eq_true c51;clear c51
     by_cases c52:(ji50) < (A4.length:Int)
     ·rw [if_pos c52] at H;have c52b0:decide ((ji50) < (A4.length:Int))=true:=decide_eq_true c52;clear c52;obtain rfl:=os H;obtain ⟨Ao53,co53,eo53⟩:=Kd.S_slice A3.out;subst eo53;have p104:0≤((ji50):Int):=od;have q104:(ji50) < (A4.length:Int):=od;obtain ⟨ad104,A104_0,c104_0,e104,hx104_0,hl104_0,hi104_0⟩:=vS (Kd.S_reads' A3.out).2.2 (ji50) p104 q104;cases e104;obtain ⟨ce104,hce104,hMe104,hcc104⟩:=Kd.S_get A3.out [] (ji50) p104 (by first|exact q104|exact od|(have e_:=(Kd.S_reads' A3.out).1;omega));obtain ⟨ve104_0,rfl,ge104_0⟩:=hMe104;have hv104_0:=hcc104 0 _ rfl;rw [Nat.add_zero,show ((Kd.slice 4 Kd.bool)).sz=1 from rfl,Nat.mul_one] at hv104_0;replace hv104_0:=Option.some.inj (hv104_0.symm.trans hx104_0);rw [hv104_0] at ge104_0;have HL104_0:=aA.mk (show Kd.R Kd.bool 4 _ _ _ _ (fW A4 (ji50)) from ge104_0);clear hv104_0 ge104_0;clear hcc104 hce104;have HR104_0:=aA.mk hi104_0;have HC104_0:=aA.mk hl104_0;clear hi104_0 hl104_0;replace p104:=eq_true p104;replace q104:=eq_true q104;go_wp2;go_ret;exact ⟨_,by first|rfl|(simp [dS,dT] <;> rfl)|(simp only [← hji50];first|rfl|(simp [dS,dT] <;> rfl))|(simp [*,dS,dT] <;> rfl),by (with_reducible repeat (first|apply Kd.R_alloc|apply Kd.R_drewN|apply Kd.R_drew));exact Kd.R_mono HL104_0.out (fun _ hk=>trivial),tb HB⟩
     ·rw [if_neg c52] at H;exact absurd H (by simp)
    ·rw [if_neg c51] at H;exact absurd H (by simp)
end Go.Proofs.Ythipjoioicmcnaa.G
