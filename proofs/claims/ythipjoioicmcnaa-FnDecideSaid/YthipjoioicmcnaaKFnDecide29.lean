-- texts of this session, merged by a program of it (wip/gen/pack.py)
import Derived.Test.YthipjoioicmcnaaKFnDecide1
import Derived.Test.YthipjoioicmcnaaKFnDecide2
import Derived.Test.YthipjoioicmcnaaKFnDecide27
import Derived.Test.YthipjoioicmcnaaKFnDecide16
import Derived.Test.YthipjoioicmcnaaKFnDecide3
import Derived.Test.YthipjoioicmcnaaKFnDecide8
set_option linter.unusedVariables false
set_option linter.unusedSimpArgs false
set_option maxHeartbeats 80000000
set_option maxRecDepth 100000
namespace Go.Proofs.Ythipjoioicmcnaa.G
open Go.RowKit Go.Proofs.YthipjoioicmcnaaW.PrintWords Go.Proofs.YthipjoioicmcnaaW.PrintLast Go.Proofs.YthipjoioicmcnaaW.PrintMore Go.Proofs.Ythipjoioicmcnaa.Sh
attribute [local go_sem] dP dR eA eB dB dC dQ dS
def fJ.f (k:Nat) (l0:List Int):Option ((List (bL))):=(dI.f k l0).bind fun bt101=>((fA.f k bt101.1 bt101.2.1 bt101.2.2 8).bind fun bt105=>(some bt105.1))
theorem fJ.calls (k:Nat) (A0:Option Addr) (c0:Nat) (l0:List Int) (r:List (bL)) (w:World) (hr0:Kd.C (Kd.int .u8) w A0 l0.length l0) (hc0:l0.length≤c0) (h:fJ.f k l0=some r) :
  Calls Try.prog 43 #[.slice A0 l0.length c0] w fun e w'=>∃ v0_:Value,e = .returned (v0_)∧Kd.R fL 99 w' w.heap.size (fun _=>True) v0_ r∧Below w.heap.size w w':=by
 have HR0:=aA.mk hr0;have HC0:=aA.mk hc0;clear hr0 hc0;have HB:=aA.mk (Below.refl w.heap.size w);have H:((dI.f k l0).bind fun bt101=>((fA.f k bt101.1 bt101.2.1 bt101.2.2 8).bind fun bt105=>(some bt105.1)))=some r:=h;clear h;replace H:=ob H;obtain ⟨⟨A1,A4,A5⟩,A20,H⟩:=H;replace H:((fA.f k A1 A4 A5 8).bind fun bt105=>(some bt105.1))=some r:=H;have A2:=aA.mk A20;clear A20;replace H:=ob H;obtain ⟨⟨A6,t108,t109⟩,A30,H⟩:=H;replace H:(some A6)=some r:=H;have A3:=aA.mk A30;clear A30;obtain rfl:=os H
 go_enter Try.func43,Try.ntmps43
 go_wp2_with (first|((with_reducible refine aD (f:=54) rfl ?_);refine aI (some 5) rfl rfl Try.func54 (by kernel_rfl) rfl #[.slice A0 l0.length c0] rfl ml ?_;(with_reducible refine (dI.calls k _ _ l0 A1 A4 A5 w _ ?side1 ?side2 ?side3 A2.out).mono ?_);(case side1=>exact tb HB);(case side2=>exact HR0.out);(case side3=>exact HC0.out);rintro e w4 ⟨g104,rfl,hi,hb,hb2⟩;refine ⟨_,rfl,?_⟩;replace HB:=aA.mk (hb);have HI104:=aA.mk (hi);(try clear hb);(try clear hb2);(try clear hk);(try clear hi))|((with_reducible refine aD (f:=95) rfl ?_);refine aI (some 7) rfl rfl Try.func95 (by kernel_rfl) rfl #[.pointer (some ⟨g104,0,none⟩),.int .i64 8] rfl ml ?_;(with_reducible refine (fA.calls k g104 A1 A4 A5 8 A6 t108 t109 w _ ?side1 ?side2 A3.out).mono ?_);(case side1=>exact dJ HI104);(case side2=>exact dX HB HI104);rintro e w5 ⟨v106,rfl,ho0,hi,hb,hk⟩;refine ⟨_,rfl,?_⟩;have A7:=aA.mk (Kd.R_lower ho0 (aG (dX HB HI104)));replace HB:=aA.mk (hb);replace HI104:=aA.mk (hi);(try clear hb);(try clear hb2);(try clear hk);(try clear hi);(try clear ho0)));go_ret;exact ⟨_,er,ra A7,dX HB HI104⟩
end Go.Proofs.Ythipjoioicmcnaa.G
namespace Go.Proofs.Ythipjoioicmcnaa.Pure
open Go.RowKit Go.Proofs.Ythipjoioicmcnaa.G Go.Proofs.YthipjoioicmcnaaW.PrintWords Go.Proofs.YthipjoioicmcnaaW.PrintLast Go.Proofs.YthipjoioicmcnaaW.PrintMore
def qu (o:Int):Bool:=decide (o=19∨o=20)
theorem quS (o:Int):bP.f o=some (qu o):=by
 unfold bP.f qu
 by_cases h:o=19
 ·rw [if_pos h]
  congr 1
  exact (decide_eq_true (Or.inl h)).symm
 ·rw [if_neg h]
  congr 1
  by_cases h2:o=20
  ·rw [decide_eq_true (Or.inr h2)]
   exact beq_iff_eq.2 h2
  ·rw [decide_eq_false (by omega)]
   exact beq_eq_false_iff_ne.2 h2
def parts (o a b c:Int):List Int:=if o=2∨o=17∨qu o=true then [a] else if 3≤o∧o≤16 then [a,b] else if o=18 then [a,b,c] else []
theorem qU (k:Nat) (o w kk a b c:Int):cG.f (k + 1) o w kk a b c=some (parts o a b c):=by
 unfold cG.f parts
 by_cases h2:o=2
 ·rw [if_pos h2,if_pos (Or.inl h2)]
  simp only [cG.j0,if_true]
 rw [if_neg h2]
 by_cases h17:o=17
 ·rw [if_pos h17,if_pos (Or.inr (Or.inl h17))]
  simp only [cG.j0,if_true]
 rw [if_neg h17]
 by_cases h19:o=19
 ·rw [if_pos h19,if_pos (Or.inr (Or.inr (show qu o=true from decide_eq_true (Or.inl h19))))]
  simp only [cG.j0,if_true]
 rw [if_neg h19]
 by_cases h20:o=20
 ·rw [if_pos (Or.inr (Or.inr (show qu o=true from decide_eq_true (Or.inr h20)))),beq_iff_eq.2 h20]
  simp only [cG.j0,if_true]
 have hq:qu o=false:=decide_eq_false (by omega)
 rw [beq_eq_false_iff_ne.2 h20,hq,if_neg (by simp [h2,h17])]
 simp only [cG.j0,Bool.false_eq_true,if_false,pG,Option.bind_some]
 by_cases h3:3≤o∧o≤16
 ·rw [decide_eq_true h3,if_pos rfl,if_pos h3]
 ·rw [decide_eq_false h3,if_neg (by decide),if_neg h3]
  by_cases h18:o=18
  ·rw [if_pos h18,if_pos h18]
  ·rw [if_neg h18,if_neg h18]
def np (x:bL):List Int:=parts x.f0 x.f3 x.f4 x.f5
theorem jG (x:bL):(np x).length≤3:=by
 unfold np parts
 repeat' split
 all_goals simp
def gO (o kk a b c:Int):Bool:=if o=0∨o=1 then a == 0 && (b == 0 && c == 0) else if o=17 then b == 0 && c == 0 else if qu o=true then c == 0 else if o=2 then kk == 0 && (b == 0 && c == 0) else if 3≤o∧o≤16 then kk == 0 && c == 0 else if o=18 then kk == 0 else kk == 0 && (a == 0 && (b == 0 && c == 0))
def lY (l:List eS):Nat→Nat→Int
 | 0,_=>0
 | d + 1,i=>(aV l (i:Int)).f2 + lY l d (i + 1)
theorem zY (l:List eS) (hl:l.length≤1048576):∃ v:Int,0≤v∧Ev (fun k=>cU.f k l) v∧Ev (fun k=>dW.f k l) (if v > 12 then -1 else v) ∧
  (v≤12→v=lY l l.length 0∧(l.length:Int)≤v∧∀ j,j < l.length→1≤(aV l (j:Int)).f2∧(aV l (j:Int)).f2≤8):=by
 have main:∀ d i,i + d=l.length→∀ s:Int,0≤s→s≤8 * (i:Int)→∃ v:Int,0≤v∧Ev (fun k=>cU.l0 k l s (i:Int)) v∧Ev (fun k=>dW.l0 k (mn s 13) l (l.length:Int) (i:Int)) (if v > 12 then -1 else v) ∧
   (v≤12→v=s + lY l d i∧s + (d:Int)≤v∧∀ j,i≤j→j < l.length→1≤(aV l (j:Int)).f2∧(aV l (j:Int)).f2≤8):=by
  intro d
  induction d with
  | zero =>
   intro i hi s h0 h1
   refine ⟨s,h0,aZ ?_,aZ ?_,fun h=>⟨by simp [lY],by omega,fun j h2 h3=>by omega⟩⟩
   ·simp only [cU.l0,if_neg (show ¬ (i:Int) < (l.length:Int) by omega)]
    exact bA _
   ·simp only [dW.l0,if_neg (show ¬ (i:Int) < (l.length:Int) by omega)]
    by_cases h:s > 12
    ·rw [if_pos h,if_pos (show mn s 13 > 12 by unfold mn;omega)]
     exact bA _
    ·rw [if_neg h,if_neg (show ¬ mn s 13 > 12 by unfold mn;omega),show mn s 13=s by unfold mn;omega]
     exact bA _
  | succ d ih =>
   intro i hi s h0 h1
   by_cases hw:1≤(aV l (i:Int)).f2∧(aV l (i:Int)).f2≤8
   ·obtain ⟨v,v0,e1,e2,e3⟩:=ih (i + 1) (by omega) (s + (aV l (i:Int)).f2) (by omega) (by push_cast;omega)
    refine ⟨v,v0,aZ ?_,aZ ?_,fun h=>⟨by have:=(e3 h).1;simp only [lY];omega,by have:=(e3 h).2.1;omega,fun j h2 h3=>?_⟩⟩
    ·simp only [cU.l0,if_pos (show (i:Int) < (l.length:Int) by omega),if_pos (show 0≤(i:Int) by omega),pG,decide_eq_true hw,Option.bind_some,if_true,eP i (show i < 4611686018427387904 by omega),
      jR (show -9223372036854775808≤s + (aV l (i:Int)).f2 by omega) (show s + (aV l (i:Int)).f2≤9223372036854775807 by omega)]
     exact e1
    ·simp only [dW.l0,if_pos (show (i:Int) < (l.length:Int) by omega),if_pos (show 0≤(i:Int) by omega),cS.f,jY,decide_eq_true hw,Option.bind_some,if_true,eP i (show i < 4611686018427387904 by omega),
      show mn (wrap64 (mn s 13 + (aV l (i:Int)).f2)) 13=mn (s + (aV l (i:Int)).f2) 13 from by unfold mn wrap64;omega]
     exact e2
    ·rcases Nat.lt_or_ge i j with h4|h4
     ·exact (e3 h).2.2 j (by omega) h3
     ·obtain rfl:j=i:=by omega
      exact hw
   ·refine ⟨13,by decide,aZ ?_,aZ ?_,fun h=>absurd h (by decide)⟩
    ·simp only [cU.l0,if_pos (show (i:Int) < (l.length:Int) by omega),if_pos (show 0≤(i:Int) by omega),pG,decide_eq_false hw,Option.bind_some,Bool.false_eq_true,if_false]
     exact bA _
    ·simp only [dW.l0,if_pos (show (i:Int) < (l.length:Int) by omega),if_pos (show 0≤(i:Int) by omega),cS.f,jY,decide_eq_false hw,Option.bind_some,Bool.false_eq_true,if_false]
     rw [if_pos (by decide)]
     exact bA _
 obtain ⟨v,v0,e1,e2,e3⟩:=main l.length 0 (by omega) 0 (by omega) (by omega)
 exact ⟨v,v0,e1,e2,fun h=>⟨by have:=(e3 h).1;omega,by have:=(e3 h).2.1;omega,fun j hj=>(e3 h).2.2 j (by omega) hj⟩⟩
end Go.Proofs.Ythipjoioicmcnaa.Pure
