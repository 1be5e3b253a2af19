-- texts of this session, merged by a program of it (wip/gen/pack.py)
import Derived.Test.YthipjoioicmcnaaKFnDecide25
import Derived.Test.YthipjoioicmcnaaKFnDecide3
import Derived.Test.YthipjoioicmcnaaKFnDecide6
import Derived.Test.YthipjoioicmcnaaKFnDecide11
import Derived.Test.YthipjoioicmcnaaKFnDecide2
import Derived.Test.YthipjoioicmcnaaKFnDecide13
import Derived.Test.YthipjoioicmcnaaKFnDecide17
import Derived.Test.YthipjoioicmcnaaKFnDecide19
import Derived.Test.YthipjoioicmcnaaKFnDecide15
set_option linter.unusedVariables false
set_option linter.unusedSimpArgs false
set_option maxHeartbeats 80000000
set_option maxRecDepth 100000
namespace Go.Proofs.Ythipjoioicmcnaa.Pure
open Go.RowKit Go.Proofs.Ythipjoioicmcnaa.G Go.Proofs.YthipjoioicmcnaaW.PrintWords Go.Proofs.YthipjoioicmcnaaW.PrintLast Go.Proofs.YthipjoioicmcnaaW.PrintMore
def nB (x:bL):Nat:=if x.f0=19∨x.f0=20 then x.f4.toNat else 0
def qB (l:List bL):Nat:=(l.map nB).sum
theorem nZ (l:List bL) (x:bL):qB (l ++ [x])=qB l + nB x:=by simp [qB]
theorem aDV (x:bL) (h:x.f0≠19) (h2:x.f0≠20):nB x=0:=by unfold nB;rw [if_neg (by rintro (h3|h3);exact h h3;exact h2 h3)]
structure gX (b:List Int) (l:List bL) (m:Nat) (g:Nat→Option (List bL × Int × Int × Int)):Prop where
 ok:∃ l' a p q,Ev g (l',a,p,q)∧gA b p∧l'.length≤l.length + m∧qB l'=qB l
theorem nY (l:List bL) (hl:l.length≤100000) (a b c d e f:Int):cC.f l a b c d e f=some (l ++ [⟨a,b,c,d,e,f⟩],(l.length:Int)):=by
 unfold cC.f
 rw [if_pos (by omega)]
theorem aGA (w:Int) (h1:1≤w) (h3:w≤3):∃ v:Int,Ev (fun k=>aH.f k w) v∧0 < v∧v≤256:=by
 obtain ⟨n,rfl⟩:=Int.eq_ofNat_of_zero_le (show 0≤w by omega)
 have h2:(2:Nat) ^ n≤2 ^ 3:=Nat.pow_le_pow_right (by decide) (by omega)
 have h4:(2:Nat) ^ 3=8:=by decide
 have h0:=Nat.two_pow_pos n
 exact ⟨((2 ^ n:Nat):Int),jT n (fun k hk=>by rw [jU n (by omega) k hk];norm_cast),by omega,by omega⟩
abbrev uJ (vs:List bL):Prop:=vs.length≤100∧∀ x∈vs,x.f0=1∧1≤x.f1∧x.f1≤3
theorem qX (vs:List bL) (r:Int) (h0:0≤r) (h1:r < (vs.length:Int)):aC vs r∈vs:=by
 obtain ⟨n,rfl⟩:=Int.eq_ofNat_of_zero_le h0
 have h:n < vs.length:=by omega
 have e:aC vs (n:Int)=vs[n]:=by
  unfold aC
  simp [List.getD_eq_getElem?_getD,List.getElem?_eq_getElem h]
 rw [e]
 exact List.getElem_mem h
def dG:Nat→Nat
 | 0=>1
 | d + 1=>3 * dG d + 1
section
variable {b:List Int} {vs:List bL}
theorem vB (l:List bL) (w d:Int) (p q:Int) (R:(Nat→Option (List bL × Int × Int × Int))→Prop) (hS:∀ g f,(∀ k,g (k + 1)=f k)→R f→R g)
  (hR:∀ ws:List Int,ws.length≤vs.length→(∀ x∈ws,0≤x∧x < (vs.length:Int))→R (fun k=>if d=0 then (aQ.j1 k l vs w d ws true b p q) else (if (l.length:Int) > 40 then (aQ.j1 k l vs w d ws true b p q) else ((dF.f b p q 5).bind fun bt108=>(aQ.j1 k l vs w d ws bt108.1 b bt108.2.1 bt108.2.2))))) (hv:uJ vs) :
  ∀ e i,i + e=vs.length→∀ ws:List Int,ws.length≤i→(∀ x∈ws,0≤x∧x < (vs.length:Int))→R (fun k=>aQ.l0 k l vs w d ws (i:Int) b p q):=by
 intro e
 induction e with
 | zero =>
  intro i hi ws h1 h2
  refine hS _ _ (fun k=>?_) (hR ws (by omega) h2)
  simp only [aQ.l0,if_neg (show ¬ (i:Int) < (vs.length:Int) by omega)]
 | succ e ih =>
  intro i hi ws h1 h2
  have:=hv.1
  by_cases c:(aC vs (i:Int)).f1=w
  ·refine hS _ _ (fun k=>?_) (ih (i + 1) (by omega) (ws ++ [(i:Int)]) (by simp;omega) (fun x hx=>?_))
   ·simp only [aQ.l0,if_pos (show (i:Int) < (vs.length:Int) by omega),if_pos (show 0≤(i:Int) by omega),if_pos c,if_pos (show ws.length < 17592186044416 by omega),eP i (show i < 4611686018427387904 by omega)]
   ·rcases List.mem_append.1 hx with h|h
    ·exact h2 x h
    ·rw [List.mem_singleton.1 h]
     omega
  ·refine hS _ _ (fun k=>?_) (ih (i + 1) (by omega) ws (by omega) h2)
   simp only [aQ.l0,if_pos (show (i:Int) < (vs.length:Int) by omega),if_pos (show 0≤(i:Int) by omega),if_neg c,eP i (show i < 4611686018427387904 by omega)]
end
theorem gX.step {b:List Int} {l:List bL} {m:Nat} {g f:Nat→Option (List bL × Int × Int × Int)} (h:∀ k,g (k + 1)=f k) (e:gX b l m f):gX b l m g:=by
 obtain ⟨l',a,p,q,e,h2⟩:=e.ok
 exact ⟨l',a,p,q,kV h e,h2⟩
theorem gX.eq {b:List Int} {l:List bL} {m:Nat} {g f:Nat→Option (List bL × Int × Int × Int)} (h:∀ k,g k=f k) (e:gX b l m f):gX b l m g:=by
 obtain ⟨l',a,p,q,e,h2⟩:=e.ok
 exact ⟨l',a,p,q,rT h e,h2⟩
theorem gX.bind {b:List Int} {l:List bL} {m m1 m2:Nat} {g:Nat→Option (List bL × Int × Int × Int)} {F:Nat→List bL × Int × Int × Int→Option (List bL × Int × Int × Int)} (h:gX b l m1 g)
  (e:∀ l' a p q,gA b p→l'.length≤l.length + m1→gX b l' m2 (fun k=>F k (l',a,p,q))) (hm:m1 + m2≤m):gX b l m (fun k=>(g k).bind (F k)):=by
 obtain ⟨l',a,p,q,e1,h1,h2,h3⟩:=h.ok
 obtain ⟨l2,a2,p2,q2,f1,g1,g2,g3⟩:=(e l' a p q h1 h2).ok
 exact ⟨l2,a2,p2,q2,bC e1 f1,g1,by omega,by rw [g3,h3]⟩
theorem gX.push {b:List Int} {l:List bL} {m:Nat} (p q:Int) (hp:gA b p) (hl:l.length≤100000) (hm:1≤m) (a0 a1 a2 a3 a4 a5:Int) (h19:a0≠19) (h20:a0≠20):gX b l m (fun _=>(cC.f l a0 a1 a2 a3 a4 a5).bind fun r=>some (r.1,r.2,p,q)):=by
 rw [nY l hl]
 exact ⟨_,_,p,q,bA _,hp,by simp;omega,by rw [nZ,aDV _ h19 h20];omega⟩
theorem gX.mono {b:List Int} {l:List bL} {m m':Nat} {g:Nat→Option (List bL × Int × Int × Int)} (h:gX b l m g) (hm:m≤m'):gX b l m' g:=by
 obtain ⟨l',a,p,q,e1,h1,h2,h3⟩:=h.ok
 exact ⟨l',a,p,q,e1,h1,by omega,h3⟩
section
variable {b:List Int} {vs:List bL} (hv:uJ vs) {l:List bL} (hl:l.length≤100000) {w d:Int} {ws:List Int} (h1:1≤w) (h3:w≤3) {p q:Int} (hp:gA b p)
include hl h1 h3 in
theorem xX (hp:gA b p):gX b l 1 (fun k=>aQ.j2 k l vs w ws false b p q):=by
 obtain ⟨v,e,v0,v1⟩:=aGA w h1 h3
 obtain ⟨r,p1,q1,hb,_,_,hp1⟩:=fG q v hp v0 v1
 refine gX.step (f:=fun k=>(aH.f k w).bind fun t123=>((bG.f b p q t123).bind fun bt124=>((cC.f l 0 w bt124.1 0 0 0).bind fun bt127=>(some (bt127.1,bt127.2,bt124.2.1,bt124.2.2))))) (fun k=>by simp only [aQ.j2,Bool.false_eq_true,if_false]) ?_
 obtain ⟨l',a,p2,q2,e2,h2⟩:=(gX.push p1 q1 hp1 hl (Nat.le_refl 1) 0 w r 0 0 0 (by decide) (by decide):gX b l 1 _).ok
 refine ⟨l',a,p2,q2,bC (a:=v) (f:=fun k t123=>((bG.f b p q t123).bind fun bt124=>((cC.f l 0 w bt124.1 0 0 0).bind fun bt127=>(some (bt127.1,bt127.2,bt124.2.1,bt124.2.2))))) e ?_,h2⟩
 simp only [hb,Option.bind_some]
 exact e2
include hv hl in
theorem aDO (hw0:0 < ws.length) (hw1:ws.length≤vs.length) (hw2:∀ x∈ws,0≤x∧x < (vs.length:Int)) (hp:gA b p):gX b l 1 (fun k=>aQ.j2 k l vs w ws true b p q):=by
 have hv1:=hv.1
 obtain ⟨r,p1,q1,hb,r0,r1,hp1⟩:=fG q (ws.length:Int) hp (by omega) (by omega)
 have hm:rd ws r∈ws:=by
  obtain ⟨n,rfl⟩:=Int.eq_ofNat_of_zero_le r0
  rw [eO,dZ ws n _ (by omega)]
  exact List.getElem_mem _
 obtain ⟨x0,x1⟩:=hw2 _ hm
 have hx:=(hv.2 _ (qX vs (rd ws r) x0 x1)).1
 refine gX.step (f:=fun _=>(cC.f l (aC vs (rd ws r)).f0 (aC vs (rd ws r)).f1 (aC vs (rd ws r)).f2 (aC vs (rd ws r)).f3 (aC vs (rd ws r)).f4 (aC vs (rd ws r)).f5).bind fun r=>some (r.1,r.2,p1,q1)) (fun k=>?_) (gX.push p1 q1 hp1 hl (Nat.le_refl 1) _ _ _ _ _ _ (by omega) (by omega))
 simp only [aQ.j2,if_true,hb,Option.bind_some,if_pos r0,if_pos r1,if_pos x0,if_pos x1]
include hv hl h1 h3 in
theorem tK (hw1:ws.length≤vs.length) (hw2:∀ x∈ws,0≤x∧x < (vs.length:Int)) (hp:gA b p):gX b l 1 (fun k=>aQ.j1 k l vs w d ws true b p q):=by
 by_cases c:(ws.length:Int) > 0
 ·obtain ⟨o,p1,q1,hb,hp1⟩:=kW q 4 hp (by decide) (by decide)
  refine gX.step (f:=fun k=>aQ.j2 k l vs w ws (!o) b p1 q1) (fun k=>by simp only [aQ.j1,if_true,if_pos c,hb,Option.bind_some]) ?_
  cases o with
  | true=>exact xX hl h1 h3 hp1
  | false=>exact aDO hv hl (by omega) hw1 hw2 hp1
 ·refine gX.step (f:=fun k=>aQ.j2 k l vs w ws false b p q) (fun k=>by simp only [aQ.j1,if_true,if_neg c]) (xX hl h1 h3 hp)
end
section
variable {b:List Int} {vs:List bL} (hv:uJ vs) {m:Nat} {D:Int} (hD:∀ (w:Int) (l:List bL) (p q:Int),1≤w→w≤3→gA b p→l.length + m≤100000→gX b l m (fun k=>aQ.f k b p q l vs w (wrap64 (D - 1))))
 {l:List bL} (hl:l.length + (3 * m + 1)≤100000) {w:Int} (h1:1≤w) (h3:w≤3) {p q:Int} (hp:gA b p)
include hD hl h1 h3 in
theorem uX (hp:gA b p):gX b l (3 * m + 1) (fun k=>aQ.j4 k l vs w D b p q):=by
 refine gX.step (fun k=>by simp only [aQ.j4];rfl) ?_
 refine gX.bind (m1:=m) (m2:=2 * m + 1) (hD w l p q h1 h3 hp (by omega)) (fun l1 a1 p1 q1 hp1 hl1=>?_) (by omega)
 refine gX.bind (m1:=m) (m2:=m + 1) (hD w l1 p1 q1 h1 h3 hp1 (by omega)) (fun l2 a2 p2 q2 hp2 hl2=>?_) (by omega)
 obtain ⟨r,p3,q3,hb,r0,r1,hp3⟩:=fG q2 10 hp2 (by decide) (by decide)
 simp only [hb,Option.bind_some]
 have hw:wrap64 (3 + r)=3 + r:=jR (by omega) (by omega)
 exact gX.push p3 q3 hp3 (by omega) (by omega) _ _ _ _ _ _ (by omega) (by omega)
include hv hD hl in
theorem aDP (h0:0 < vs.length) (hp:gA b p):gX b l (3 * m + 1) (fun k=>aQ.j3 k l vs w D true b p q):=by
 have hv1:=hv.1
 obtain ⟨r,p0,q0,hb,r0,r1,hp0⟩:=fG q (vs.length:Int) hp (by omega) (by omega)
 have hx:=hv.2 _ (qX vs r r0 r1)
 refine gX.step (fun k=>by simp only [aQ.j3,if_true,hb,Option.bind_some,if_pos r0,if_pos r1];rfl) ?_
 refine gX.bind (m1:=m) (m2:=2 * m + 1) (hD _ l p0 q0 hx.2.1 hx.2.2 hp0 (by omega)) (fun l1 a1 p1 q1 hp1 hl1=>?_) (by omega)
 refine gX.bind (m1:=m) (m2:=m + 1) (hD _ l1 p1 q1 hx.2.1 hx.2.2 hp1 (by omega)) (fun l2 a2 p2 q2 hp2 hl2=>?_) (by omega)
 obtain ⟨r',p3,q3,hb',r0',r1',hp3⟩:=fG q2 3 hp2 (by decide) (by decide)
 simp only [hb',Option.bind_some]
 have hw:wrap64 (13 + r')=13 + r':=jR (by omega) (by omega)
 exact gX.push p3 q3 hp3 (by omega) (by omega) _ _ _ _ _ _ (by omega) (by omega)
include hv hD hl h1 h3 in
theorem tL (hp:gA b p):gX b l (3 * m + 1) (fun k=>aQ.j3 k l vs w D false b p q):=by
 have hv1:=hv.1
 obtain ⟨r,p0,q0,hb,r0,r1,hp0⟩:=fG q 8 hp (by decide) (by decide)
 by_cases z0:r=0
 ·refine gX.step (fun k=>by simp only [aQ.j3,Bool.false_eq_true,if_false,hb,Option.bind_some,if_pos z0];rfl) ?_
  refine gX.bind (m1:=m) (m2:=2 * m + 1) (hD _ l p0 q0 h1 h3 hp0 (by omega)) (fun l1 a1 p1 q1 hp1 hl1=>?_) (by omega)
  exact gX.push p1 q1 hp1 (by omega) (by omega) _ _ _ _ _ _ (by decide) (by decide)
 by_cases z1:r=1
 ·by_cases c:w > 1
  ·obtain ⟨r',p1,q1,hb',r0',r1',hp1⟩:=fG q0 (wrap64 (w - 1)) hp0 (by rw [jR (by omega) (by omega)];omega) (by rw [jR (by omega) (by omega)];omega)
   rw [jR (show -9223372036854775808≤w - 1 by omega) (by omega)] at r1'
   have e1:wrap64 (1 + r')=1 + r':=jR (by omega) (by omega)
   have e2:wrap64 (w - (1 + r'))=w - (1 + r'):=jR (by omega) (by omega)
   refine gX.step (fun k=>by simp only [aQ.j3,Bool.false_eq_true,if_false,hb,Option.bind_some,if_neg z0,if_pos z1,if_pos c,hb',e1,e2];rfl) ?_
   refine gX.bind (m1:=m) (m2:=2 * m + 1) (hD _ l p1 q1 (by omega) (by omega) hp1 (by omega)) (fun l1 a1 p2 q2 hp2 hl1=>?_) (by omega)
   refine gX.bind (m1:=m) (m2:=m + 1) (hD _ l1 p2 q2 (by omega) (by omega) hp2 (by omega)) (fun l2 a2 p3 q3 hp3 hl2=>?_) (by omega)
   exact gX.push p3 q3 hp3 (by omega) (by omega) _ _ _ _ _ _ (by decide) (by decide)
  ·exact gX.step (fun k=>by simp only [aQ.j3,Bool.false_eq_true,if_false,hb,Option.bind_some,if_neg z0,if_pos z1,if_neg c]) (uX hD hl h1 h3 (q:=q0) hp0)
 by_cases z2:r=2
 ·by_cases c:(vs.length:Int) > 0
  ·obtain ⟨r',p1,q1,hb',r0',r1',hp1⟩:=fG q0 (vs.length:Int) hp0 (by omega) (by omega)
   have hx:=hv.2 _ (qX vs r' r0' r1')
   by_cases c2:(aC vs r').f1 > w
   ·have e1:wrap64 (wrap64 ((aC vs r').f1 - w) + 1)=(aC vs r').f1 - w + 1:=by rw [jR (show -9223372036854775808≤(aC vs r').f1 - w by omega) (by omega),jR (by omega) (by omega)]
    refine gX.step (fun k=>by simp only [aQ.j3,Bool.false_eq_true,if_false,hb,Option.bind_some,if_neg z0,if_neg z1,if_pos z2,if_pos c,hb',if_pos r0',if_pos r1',if_pos c2,e1];rfl) ?_
    refine gX.bind (m1:=m) (m2:=2 * m + 1) (hD _ l p1 q1 hx.2.1 hx.2.2 hp1 (by omega)) (fun l1 a1 p2 q2 hp2 hl1=>?_) (by omega)
    obtain ⟨r3,p3,q3,hb3,_,_,hp3⟩:=fG q2 ((aC vs r').f1 - w + 1) hp2 (by omega) (by omega)
    simp only [hb3,Option.bind_some]
    exact gX.push p3 q3 hp3 (by omega) (by omega) _ _ _ _ _ _ (by decide) (by decide)
   ·exact gX.step (fun k=>by simp only [aQ.j3,Bool.false_eq_true,if_false,hb,Option.bind_some,if_neg z0,if_neg z1,if_pos z2,if_pos c,hb',if_pos r0',if_pos r1',if_neg c2]) (uX hD hl h1 h3 (q:=q1) hp1)
  ·exact gX.step (fun k=>by simp only [aQ.j3,Bool.false_eq_true,if_false,hb,Option.bind_some,if_neg z0,if_neg z1,if_pos z2,if_neg c]) (uX hD hl h1 h3 (q:=q0) hp0)
 by_cases z3:r=3
 ·refine gX.step (fun k=>by simp only [aQ.j3,Bool.false_eq_true,if_false,hb,Option.bind_some,if_neg z0,if_neg z1,if_neg z2,if_pos z3];rfl) ?_
  refine gX.bind (m1:=m) (m2:=2 * m + 1) (hD 1 l p0 q0 (by decide) (by decide) hp0 (by omega)) (fun l1 a1 p1 q1 hp1 hl1=>?_) (by omega)
  refine gX.bind (m1:=m) (m2:=m + 1) (hD _ l1 p1 q1 h1 h3 hp1 (by omega)) (fun l2 a2 p2 q2 hp2 hl2=>?_) (by omega)
  refine gX.bind (m1:=m) (m2:=1) (hD _ l2 p2 q2 h1 h3 hp2 (by omega)) (fun l3 a3 p3 q3 hp3 hl3=>?_) (by omega)
  exact gX.push p3 q3 hp3 (by omega) (by omega) _ _ _ _ _ _ (by decide) (by decide)
 ·exact gX.step (fun k=>by simp only [aQ.j3,Bool.false_eq_true,if_false,hb,Option.bind_some,if_neg z0,if_neg z1,if_neg z2,if_neg z3]) (uX hD hl h1 h3 (q:=q0) hp0)
end
theorem aAH (b:List Int) (vs:List bL) (hv:uJ vs):∀ d:Nat,d≤4→∀ (w:Int),1≤w→w≤3→∀ (l:List bL) (p q:Int),gA b p→l.length + dG d≤100000→gX b l (dG d) (fun k=>aQ.f k b p q l vs w (d:Int)):=by
 intro d
 induction d with
 | zero =>
  intro _ w h1 h3 l p q hp hl
  refine gX.step (f:=fun k=>aQ.l0 k l vs w ((0:Nat):Int) [] ((0:Nat):Int) b p q) (fun k=>rfl) (vB l w _ p q _ (fun _ _=>gX.step) (fun ws hw1 hw2=>?_) hv vs.length 0 (by omega) [] (by simp) (by simp))
  simp only [if_pos (show ((0:Nat):Int)=0 from rfl)]
  exact tK hv (by omega) h1 h3 hw1 hw2 hp
 | succ d ih =>
  intro hd w h1 h3 l p q hp hl
  have hd1:wrap64 (((d + 1:Nat):Int) - 1)=(d:Int):=by rw [jR (by omega) (by omega)];omega
  have hD:∀ (w:Int) (l:List bL) (p q:Int),1≤w→w≤3→gA b p→l.length + dG d≤100000→gX b l (dG d) (fun k=>aQ.f k b p q l vs w (wrap64 (((d + 1:Nat):Int) - 1))):=fun w l p q h1 h3 hp hl=>by rw [hd1];exact ih (by omega) w h1 h3 l p q hp hl
  simp only [dG] at hl ⊢
  refine gX.step (f:=fun k=>aQ.l0 k l vs w ((d + 1:Nat):Int) [] ((0:Nat):Int) b p q) (fun k=>rfl) (vB l w _ p q _ (fun _ _=>gX.step) (fun ws hw1 hw2=>?_) hv vs.length 0 (by omega) [] (by simp) (by simp))
  simp only [if_neg (show ¬ ((d + 1:Nat):Int)=0 by omega)]
  by_cases c:(l.length:Int) > 40
  ·simp only [if_pos c]
   exact (tK hv (by omega) h1 h3 hw1 hw2 hp).mono (by omega)
  simp only [if_neg c]
  obtain ⟨o,p1,q1,hb,hp1⟩:=kW q 5 hp (by decide) (by decide)
  simp only [hb,Option.bind_some]
  cases o with
  | true=>exact (tK hv (by omega) h1 h3 hw1 hw2 hp1).mono (by omega)
  | false =>
   by_cases c1:w=1
   ·by_cases c2:(vs.length:Int) > 0
    ·obtain ⟨o,p2,q2,hb2,hp2⟩:=kW q1 2 hp1 (by decide) (by decide)
     refine gX.step (f:=fun k=>aQ.j3 k l vs w ((d + 1:Nat):Int) o b p2 q2) (fun k=>by simp only [aQ.j1,Bool.false_eq_true,if_false,if_pos c1,if_pos c2,hb2,Option.bind_some]) ?_
     cases o with
     | true=>exact aDP hv hD hl (by omega) hp2
     | false=>exact tL hv hD hl h1 h3 hp2
    ·exact gX.step (fun k=>by simp only [aQ.j1,Bool.false_eq_true,if_false,if_pos c1,if_neg c2]) (tL hv hD hl h1 h3 (q:=q1) hp1)
   ·exact gX.step (fun k=>by simp only [aQ.j1,Bool.false_eq_true,if_false,if_neg c1]) (tL hv hD hl h1 h3 (q:=q1) hp1)
def qR (b:List Int) (l:List bL) (bs nx:Int) (m:Nat) (g:Nat→Option (List bL × Int × Int × Int × Int × Int)):Prop :=
 ∃ l' a nx' bs' p q,Ev g (l',a,nx',bs',p,q)∧gA b p∧l'.length≤l.length + m∧((qB l':Nat):Int) + bs'=((qB l:Nat):Int) + bs∧0≤bs'∧bs'≤bs∧nx≤nx'∧nx'≤8
theorem qR.step {b:List Int} {l:List bL} {bs nx:Int} {m:Nat} {g f:Nat→Option (List bL × Int × Int × Int × Int × Int)} (h:∀ k,g (k + 1)=f k) (e:qR b l bs nx m f):qR b l bs nx m g:=by
 obtain ⟨l',a,nx',bs',p,q,e,h2⟩:=e
 exact ⟨l',a,nx',bs',p,q,kV h e,h2⟩
theorem qR.bind {b:List Int} {l l2:List bL} {bs nx bs2 nx2:Int} {m m2:Nat} {g:Nat→Option (List bL × Int × Int × Int × Int × Int)} {F:Nat→List bL × Int × Int × Int × Int × Int→Option (List bL × Int × Int × Int × Int × Int)} (h:qR b l2 bs2 nx2 m2 g)
  (e:∀ l' a nx' bs' p q,gA b p→l'.length≤l2.length + m2→((qB l':Nat):Int) + bs'=((qB l2:Nat):Int) + bs2→0≤bs'→bs'≤bs2→nx2≤nx'→nx'≤8→qR b l bs nx m (fun k=>F k (l',a,nx',bs',p,q))):qR b l bs nx m (fun k=>(g k).bind (F k)):=by
 obtain ⟨l',a,nx',bs',p,q,e1,h1,h2,h3,h4,h5,h6,h7⟩:=h
 obtain ⟨l3,a3,nx3,bs3,p3,q3,e3,g3⟩:=e l' a nx' bs' p q h1 h2 h3 h4 h5 h6 h7
 exact ⟨l3,a3,nx3,bs3,p3,q3,bC e1 e3,g3⟩
theorem qR.deep {b:List Int} {l l2:List bL} {bs nx:Int} {m m2:Nat} {g:Nat→Option (List bL × Int × Int × Int)} {F:Nat→List bL × Int × Int × Int→Option (List bL × Int × Int × Int × Int × Int)} (h:gX b l2 m2 g)
  (e:∀ l' a p q,gA b p→l'.length≤l2.length + m2→qB l'=qB l2→qR b l bs nx m (fun k=>F k (l',a,p,q))):qR b l bs nx m (fun k=>(g k).bind (F k)):=by
 obtain ⟨l',a,p,q,e1,h1,h2,h3⟩:=h.ok
 obtain ⟨l3,a3,nx3,bs3,p3,q3,e3,g3⟩:=e l' a p q h1 h2 h3
 exact ⟨l3,a3,nx3,bs3,p3,q3,bC e1 e3,g3⟩
theorem aDU {r bs:Int} (r0:0≤r) (r1:r < 3) (b0:0 < bs) (b8:bs≤8):1≤kS r bs∧kS r bs≤3∧kS r bs≤bs:=by
 unfold kS
 rw [jR (show -9223372036854775808≤1 + r by omega) (by omega)]
 split <;> omega
def mdT (b:List Int) (nx bs p q D:Int):Option (Bool × Int × Int):=(if D > 0 then (if nx < 8 then (if bs > 0 then ((dF.f b p q 5).bind fun o=>some (!o.1,o.2.1,o.2.2)) else some (false,p,q)) else some (false,p,q)) else some (false,p,q))
theorem aDT {b:List Int} (nx bs p q D:Int) (hp:gA b p):∃ t p1 q1,mdT b nx bs p q D=some (t,p1,q1)∧gA b p1∧(t=true→D > 0∧nx < 8∧bs > 0):=by
 unfold mdT
 by_cases h1:D > 0
 ·by_cases h2:nx < 8
  ·by_cases h3:bs > 0
   ·obtain ⟨o,p1,q1,hb,hp1⟩:=kW q 5 hp (by decide) (by decide)
    rw [if_pos h1,if_pos h2,if_pos h3,hb]
    exact ⟨!o,p1,q1,rfl,hp1,fun _=>⟨h1,h2,h3⟩⟩
   ·rw [if_pos h1,if_pos h2,if_neg h3]
    exact ⟨_,_,_,rfl,hp,fun h=>by cases h⟩
  ·rw [if_pos h1,if_neg h2]
   exact ⟨_,_,_,rfl,hp,fun h=>by cases h⟩
 ·rw [if_neg h1]
  exact ⟨_,_,_,rfl,hp,fun h=>by cases h⟩
theorem rZ {b:List Int} (D:Int) (m:Nat) (hD:D > 0→∀ (l vs:List bL) (nx bs p q:Int),gA b p→0≤nx→nx≤8→0≤bs→bs≤8→uJ vs→(vs.length:Int)≤nx→l.length + m≤100000→qR b l bs nx m (fun k=>dH.f k b p q l vs nx bs (wrap64 (D - 1)))) :
  ∀ (l vs:List bL) (nx bs p q:Int),gA b p→0≤nx→nx≤8→0≤bs→bs≤8→uJ vs→(vs.length:Int)≤nx→l.length + (2 * m + 41)≤100000→qR b l bs nx (2 * m + 41) (fun k=>dH.f k b p q l vs nx bs D):=by
 intro l vs nx bs p q hp n0 n8 b0 b8 hv hvn hl
 obtain ⟨t,p1,q1,hT,hp1,ht⟩:=aDT nx bs p q D hp
 unfold mdT at hT
 refine qR.step (fun k=>by simp only [dH.f,hT,Option.bind_some];rfl) ?_
 cases t with
 | true =>
  obtain ⟨hd0,hn,hb⟩:=ht rfl
  obtain ⟨r,p2,q2,e2,r0,r1,hp2⟩:=fG q1 3 hp1 (by decide) (by decide)
  obtain ⟨o,p3,q3,e3,o0,o1,hp3⟩:=fG q2 2 hp2 (by decide) (by decide)
  obtain ⟨w1,w3,wb⟩:=aDU r0 r1 hb b8
  have x1:wrap64 (nx + 1)=nx + 1:=jR (by omega) (by omega)
  have x2:wrap64 (bs - kS r bs)=bs - kS r bs:=jR (by omega) (by omega)
  have x3:wrap64 (19 + o)=19 + o:=jR (by omega) (by omega)
  simp only [if_true,e2,e3,Option.bind_some,if_pos (show vs.length < 2932031007401 by omega),x1,x2,x3]
  refine qR.bind (hD hd0 l (vs ++ [⟨1,kS r bs,nx,0,0,0⟩]) (nx + 1) (bs - kS r bs) p3 q3 hp3 (by omega) (by omega) (by omega) (by omega) ⟨by simp;omega,fun x hx=>?_⟩ (by simp;omega) (by omega)) (fun l' a nx' bs' p' q' hp' hl' hq hb0 hb1 hn0 hn1=>?_)
  ·rcases List.mem_append.1 hx with h|h
   ·exact hv.2 x h
   ·rw [List.mem_singleton.1 h]
    exact ⟨rfl,w1,w3⟩
  ·simp only [nY l' (by omega),Option.bind_some]
   have hnB:((nB (⟨19 + o,1,nx,a,kS r bs,0⟩:bL):Nat):Int)=kS r bs:=by
    unfold nB
    rw [if_pos (show 19 + o=19∨19 + o=20 by omega)]
    show ((kS r bs).toNat:Int)=_
    omega
   exact ⟨_,_,_,_,_,_,bA _,hp',by simp;omega,by rw [nZ];omega,hb0,by omega,by omega,hn1⟩
 | false =>
  obtain ⟨r,p2,q2,e2,r0,r1,hp2⟩:=fG q1 5 hp1 (by decide) (by decide)
  simp only [Bool.false_eq_true,if_false,e2,Option.bind_some]
  by_cases c0:r=0∧D > 0
  ·simp only [if_pos c0]
   refine qR.bind (hD c0.2 l vs nx bs p2 q2 hp2 n0 n8 b0 b8 hv hvn (by omega)) (fun l' a nx' bs' p' q' hp' hl' hq hb0 hb1 hn0 hn1=>?_)
   simp only [nY l' (by omega),Option.bind_some]
   exact ⟨_,_,_,_,_,_,bA _,hp',by simp;omega,by rw [nZ,aDV _ (by show (2:Int)≠19;decide) (by show (2:Int)≠20;decide)];omega,hb0,hb1,hn0,hn1⟩
  simp only [if_neg c0]
  by_cases c1:(r=1∨r=2)∧D > 0
  ·simp only [if_pos c1]
   refine qR.bind (hD c1.2 l vs nx bs p2 q2 hp2 n0 n8 b0 b8 hv hvn (by omega)) (fun l' a nx' bs' p' q' hp' hl' hq hb0 hb1 hn0 hn1=>?_)
   refine qR.bind (hD c1.2 l' vs nx' bs' p' q' hp' (by omega) hn1 hb0 (by omega) hv (by omega) (by omega)) (fun l2 a2 nx2 bs2 p3 q3 hp3 hl2 hq2 hb2 hb3 hn2 hn3=>?_)
   obtain ⟨o,p4,q4,e4,o0,o1,hp4⟩:=fG q3 2 hp3 (by decide) (by decide)
   have x3:wrap64 (3 + o)=3 + o:=jR (by omega) (by omega)
   simp only [e4,x3,nY l2 (by omega),Option.bind_some]
   exact ⟨_,_,_,_,_,_,bA _,hp4,by simp;omega,by rw [nZ,aDV _ (by show (3 + o:Int)≠19;omega) (by show (3 + o:Int)≠20;omega)];omega,hb2,by omega,by omega,hn3⟩
  ·simp only [if_neg c1]
   refine qR.deep (aAH b vs hv 3 (by decide) 1 (by decide) (by decide) l p2 q2 hp2 (by simp only [dG];omega)) (fun l' a p' q' hp' hl' hq=>?_)
   simp only [dG] at hl'
   exact ⟨l',a,nx,bs,p',q',bA _,hp',by omega,by rw [hq],b0,Int.le_refl _,Int.le_refl _,n8⟩
def mG:Nat→Nat
 | 0=>41
 | d + 1=>2 * mG d + 41
theorem aAT (b:List Int):∀ d:Nat,d≤4→∀ (l vs:List bL) (nx bs p q:Int),gA b p→0≤nx→nx≤8→0≤bs→bs≤8→uJ vs→(vs.length:Int)≤nx→l.length + mG d≤100000→qR b l bs nx (mG d) (fun k=>dH.f k b p q l vs nx bs (d:Int)):=by
 intro d
 induction d with
 | zero =>
  intro _
  exact rZ (b:=b) ((0:Nat):Int) 0 (fun h=>absurd h (by decide))
 | succ d ih =>
  intro hd
  have hd1:wrap64 (((d + 1:Nat):Int) - 1)=(d:Int):=by rw [jR (by omega) (by omega)];omega
  have:=rZ (b:=b) ((d + 1:Nat):Int) (mG d) (fun _=>by rw [hd1];exact ih (by omega))
  exact this
theorem wL (j:Nat):(2:Int) ^ j=((2 ^ j:Nat):Int):=by norm_cast
theorem aDZ (b:List Int) (hb:b.length≤1099511627776):∃ h,Ev (fun k=>dI.f k b) (b,0,h):=by
 have H:∀ d (i:Nat) h,i + d=b.length→∃ h',Ev (fun k=>dI.l0 k b h (i:Int)) (b,0,h'):=by
  intro d
  induction d with
  | zero =>
   intro i h hi
   refine ⟨?w0,aZ ?p0⟩
   case p0 =>
    simp only [dI.l0,if_neg (show ¬ (i:Int) < (b.length:Int) by omega)]
    exact bA _
  | succ d ih =>
   intro i h hi
   by_cases h4:(i:Int) < 4000
   ·have hh:=fun z=>ih (i + 1) z (by omega)
    refine ⟨?w1,aZ ?p1⟩
    case p1 =>
     simp only [dI.l0,if_pos (show (i:Int) < (b.length:Int) by omega),if_pos h4,if_pos (show 0≤(i:Int) by omega),eP i (show i < 4611686018427387904 by omega)]
     exact (hh _).choose_spec
   ·refine ⟨?w2,aZ ?p2⟩
    case p2 =>
     simp only [dI.l0,if_pos (show (i:Int) < (b.length:Int) by omega),if_neg h4]
     exact bA _
 exact H b.length 0 _ (by omega)
theorem yW (n:Nat) (hn:n≤12) {b:List Int} {i:Int} (h:Int) (hi:gA b i):∃ l i' h',Ev (fun k=>bN.f k b i h (n:Int)) ((n:Int),ones l,i',h')∧l.length=2 ^ n∧gA b i':=by
 have hp:=sD hn
 have pw:Ev (fun k=>aH.f k (n:Int)) ((2 ^ n:Nat):Int):=jT n (fun k hk=>by rw [jU n (by omega) k hk,wL])
 have H:∀ d (j:Nat) (acc:List Bool) (m i h:Int),j + d=2 ^ n→acc.length=j→gA b i→∃ l i' h',Ev (fun k=>bN.l0 k (n:Int) (acc.map nJ) m (j:Int) b i h) ((n:Int),ones l,i',h')∧l.length=2 ^ n∧gA b i':=by
  intro d
  induction d with
  | zero =>
   intro j acc m i h hj ha hi
   obtain ⟨t,i',h',e,hi'⟩:=kW h 8 hi (by omega) (by omega)
   cases t
   ·refine ⟨acc,i',h',aZ ?_,by omega,hi'⟩
    simp only [bN.l0]
    refine bC pw ?_
    simp only [if_neg (show ¬ (j:Int) < ((2 ^ n:Nat):Int) by omega),e,Option.bind_some,Bool.false_eq_true,if_false,iN]
    exact bA _
   ·refine ⟨List.replicate (acc.map nJ).length true,i',h',aZ ?_,by simp;omega,hi'⟩
    simp only [bN.l0]
    refine bC pw ?_
    simp only [if_neg (show ¬ (j:Int) < ((2 ^ n:Nat):Int) by omega),e,Option.bind_some,if_true]
    exact jT _ (uG (n:Int) b i' h' (acc.map nJ) (by simp;omega))
  | succ d ih =>
   intro j acc m i h hj ha hi
   have next:∀ (v:Bool) (i h:Int),gA b i→∃ l i' h',Ev (fun k=>if (acc.map nJ).length < 140737488355328 then bN.l0 k (n:Int) (acc.map nJ ++ [nJ v]) m (wrap64 ((j:Int) + 1)) b i h else none) ((n:Int),ones l,i',h')∧l.length=2 ^ n∧gA b i':=by
    intro v i h hi
    simp only [if_pos (show (acc.map nJ).length < 140737488355328 by simp;omega),eP j (by omega),show acc.map nJ ++ [nJ v]=(acc ++ [v]).map nJ from by simp]
    exact ih (j + 1) (acc ++ [v]) m i h (by omega) (by simp;omega) hi
   obtain ⟨v,i',h',e,hv0,hv1,hi'⟩:=fG h 2 hi (by omega) (by omega)
   have hj0:(j:Int) < ((2 ^ n:Nat):Int):=by omega
   by_cases h0:m=0
   ·have hb2:0≤Int.tmod (wrap64 (Int.tdiv (j:Int) 2)) 2∧Int.tmod (wrap64 (Int.tdiv (j:Int) 2)) 2 < 2:=by
     rw [Int.tdiv_eq_ediv_of_nonneg (by omega),jR (by omega) (by omega),Int.tmod_eq_emod_of_nonneg (by omega)]
     omega
    obtain ⟨l,i2,h2,e2,q⟩:=next (Int.tmod (wrap64 (Int.tdiv (j:Int) 2)) 2 == 1) i' h' hi'
    refine ⟨l,i2,h2,aZ ?_,q⟩
    simp only [bN.l0]
    refine bC pw ?_
    simp only [if_pos hj0,e,Option.bind_some,if_pos h0,qH hb2.1 hb2.2]
    exact e2
   by_cases h1:m=1
   ·obtain ⟨t,i2,h2,e2,hi2⟩:=kW h' 2 hi' (by omega) (by omega)
    cases t
    ·obtain ⟨l,i3,h3,e3,q⟩:=next (v == 1) i2 h2 hi2
     refine ⟨l,i3,h3,aZ ?_,q⟩
     simp only [bN.l0]
     refine bC pw ?_
     simp only [if_pos hj0,e,e2,Option.bind_some,if_neg h0,if_pos h1,qH hv0 hv1,Bool.false_eq_true,if_false]
     exact e3
    ·obtain ⟨l,i3,h3,e3,q⟩:=next false i2 h2 hi2
     refine ⟨l,i3,h3,aZ ?_,q⟩
     simp only [bN.l0]
     refine bC pw ?_
     simp only [if_pos hj0,e,e2,Option.bind_some,if_neg h0,if_pos h1,if_true]
     exact e3
   ·obtain ⟨l,i3,h3,e3,q⟩:=next (v == 1) i' h' hi'
    refine ⟨l,i3,h3,aZ ?_,q⟩
    simp only [bN.l0]
    refine bC pw ?_
    simp only [if_pos hj0,e,Option.bind_some,if_neg h0,if_neg h1,qH hv0 hv1]
    exact e3
 obtain ⟨m,i',h',e,_,_,hi'⟩:=fG h 4 hi (by omega) (by omega)
 obtain ⟨l,i2,h2,e2,q⟩:=H (2 ^ n) 0 [] m i' h' (by omega) rfl hi'
 refine ⟨l,i2,h2,?_,q⟩
 unfold bN.f
 simp only [e,Option.bind_some]
 exact e2
theorem aEJ (n:Nat) (hn:n≤100) {b:List Int} {i:Int} (h:Int) (hi:gA b i):∃ r i' h',Ev (fun k=>eD.f k b i h (n:Int)) (r,i',h')∧r.length=n∧gA b i':=by
 have H:∀ d (j:Nat) (acc:List Bool) (i h:Int),j + d=n→acc.length=j→gA b i→∃ l i' h',Ev (fun k=>eD.l0 k (n:Int) acc (j:Int) b i h) (l,i',h')∧l.length=n∧gA b i':=by
  intro d
  induction d with
  | zero =>
   intro j acc i h hj ha hi
   refine ⟨acc,i,h,aZ ?_,by omega,hi⟩
   simp only [eD.l0,if_neg (show ¬ (j:Int) < (n:Int) by omega)]
   exact bA _
  | succ d ih =>
   intro j acc i h hj ha hi
   obtain ⟨t,i',h',e,hi'⟩:=kW h 2 hi (by omega) (by omega)
   obtain ⟨l,i2,h2,e2,q⟩:=ih (j + 1) (acc ++ [t]) i' h' (by omega) (by simp;omega) hi'
   refine ⟨l,i2,h2,aZ ?_,q⟩
   simp only [eD.l0,if_pos (show (j:Int) < (n:Int) by omega),e,Option.bind_some,if_pos (show acc.length < 140737488355328 by omega),eP j (show j < 4611686018427387904 by omega)]
   exact e2
 unfold eD.f
 exact H n 0 [] i h (by omega) rfl hi
theorem rR (b:List Int) (hb:b.length≤1099511627776):∃ r n l,Ev (fun k=>fW.f k b) (r,((n:Nat):Int),ones l)∧n≤6∧r.length=n∧l.length=2 ^ n:=by
 unfold fW.f
 obtain ⟨h,e⟩:=aDZ b hb
 obtain ⟨n,i1,h1,e1,hn0,hn1,hi1⟩:=fG h 7 (vK hb) (by omega) (by omega)
 obtain ⟨n,rfl⟩:=Int.eq_ofNat_of_zero_le hn0
 obtain ⟨r,i2,h2,e2,hr,hi2⟩:=aEJ n (by omega) h1 hi1
 obtain ⟨l,i3,h3,e3,hl,_⟩:=yW n (by omega) h2 hi2
 refine ⟨r,n,l,?_,by omega,hr,hl⟩
 refine bC e ?_
 simp only [e1,Option.bind_some]
 refine bC e2 ?_
 refine bC e3 ?_
 exact bA _
end Go.Proofs.Ythipjoioicmcnaa.Pure
