-- texts of this session, merged by a program of it (wip/gen/pack.py)
import Derived.Test.YthipjoioicmcnaaKFnTable14
import Derived.Test.YthipjoioicmcnaaKFnTable8
import Derived.Test.YthipjoioicmcnaaKFnTable7
import Derived.Test.YthipjoioicmcnaaKFnTable13
import Derived.Test.YthipjoioicmcnaaKFnTable6
import Derived.Test.YthipjoioicmcnaaKFnTable9
import Derived.Test.YthipjoioicmcnaaKFnTable3
import Derived.Test.YthipjoioicmcnaaKFnTable2
import Derived.Test.YthipjoioicmcnaaKFnTable5
import Derived.Test.YthipjoioicmcnaaKFnTable10
import Derived.Test.YthipjoioicmcnaaKFnTable11
set_option linter.unusedVariables false
set_option linter.unusedSimpArgs false
set_option maxHeartbeats 80000000
set_option maxRecDepth 100000
namespace Go.Proofs.Ythipjoioicmcnaa.Pure
open Go.RowKit Go.Proofs.Ythipjoioicmcnaa.G Go.Proofs.YthipjoioicmcnaaW.PrintWords Go.Proofs.YthipjoioicmcnaaW.PrintLast Go.Proofs.YthipjoioicmcnaaW.PrintMore
def mv (φ:Int→Int) (x:bN):bN:=⟨x.f0,x.f1,x.f2,if 0 < (np x).length then φ x.f3 else x.f3,if 1 < (np x).length then φ x.f4 else x.f4,if 2 < (np x).length then φ x.f5 else x.f5⟩
theorem iU (x:bN):(np x=[x.f3]∧(x.f0=2∨x.f0=17∨qu x.f0=true))∨(np x=[x.f3,x.f4]∧3≤x.f0∧x.f0≤16)∨(np x=[x.f3,x.f4,x.f5]∧x.f0=18)∨(np x=[]∧¬ (x.f0=2∨x.f0=17∨qu x.f0=true)∧¬ (3≤x.f0∧x.f0≤16)∧¬ x.f0=18):=by
 unfold np parts
 by_cases h1:x.f0=2∨x.f0=17∨qu x.f0=true
 ·exact Or.inl ⟨if_pos h1,h1⟩
 by_cases h2:3≤x.f0∧x.f0≤16
 ·exact Or.inr (Or.inl ⟨by rw [if_neg h1,if_pos h2],h2⟩)
 by_cases h3:x.f0=18
 ·exact Or.inr (Or.inr (Or.inl ⟨by rw [if_neg h1,if_neg h2,if_pos h3],h3⟩))
 ·exact Or.inr (Or.inr (Or.inr ⟨by rw [if_neg h1,if_neg h2,if_neg h3],h1,h2,h3⟩))
theorem rC (φ:Int→Int) (x:bN):np (mv φ x)=(np x).map φ:=by
 rcases iU x with ⟨h,c⟩ | ⟨h,c⟩ | ⟨h,c⟩ | ⟨h,c1,c2,c3⟩
 ·rw [h]
  show parts x.f0 _ _ _=_
  unfold parts
  rw [if_pos c]
  simp [mv,h]
 ·have c1:¬ (x.f0=2∨x.f0=17∨qu x.f0=true):=by unfold qu;simp only [decide_eq_true_eq];omega
  rw [h]
  show parts x.f0 _ _ _=_
  unfold parts
  rw [if_neg c1,if_pos c]
  simp [mv,h]
 ·have c1:¬ (x.f0=2∨x.f0=17∨qu x.f0=true):=by unfold qu;simp only [decide_eq_true_eq];omega
  rw [h]
  show parts x.f0 _ _ _=_
  unfold parts
  rw [if_neg c1,if_neg (by omega),if_pos c]
  simp [mv,h]
 ·rw [h]
  show parts x.f0 _ _ _=_
  unfold parts
  rw [if_neg c1,if_neg c2,if_neg c3]
  rfl
theorem yF (φ:Int→Int) (x:bN) (h:fQ x.f0 x.f2 x.f3 x.f4 x.f5=true):fQ (mv φ x).f0 (mv φ x).f2 (mv φ x).f3 (mv φ x).f4 (mv φ x).f5=true:=by
 rcases iU x with ⟨e,c⟩ | ⟨e,c⟩ | ⟨e,c⟩ | ⟨e,c1,c2,c3⟩
 ·simp only [mv,e,List.length_singleton,if_pos (show 0 < 1 by decide),if_neg (show ¬ 1 < 1 by decide),if_neg (show ¬ 2 < 1 by decide)]
  unfold fQ at h ⊢
  have c0:¬ (x.f0=0∨x.f0=1):=by unfold qu at c;simp only [decide_eq_true_eq] at c;omega
  rw [if_neg c0] at h ⊢
  rcases c with c|c|c
  ·rw [if_neg (show ¬ x.f0=17 by omega)] at h ⊢
   have cq:¬ qu x.f0=true:=by unfold qu;simp only [decide_eq_true_eq];omega
   rw [if_neg cq,if_pos c] at h ⊢
   exact h
  ·rw [if_pos c] at h ⊢
   exact h
  ·have c17:¬ x.f0=17:=by unfold qu at c;simp only [decide_eq_true_eq] at c;omega
   rw [if_neg c17,if_pos c] at h ⊢
   exact h
 ·simp only [mv,e,List.length_cons,List.length_nil,if_pos (show 0 < 0 + 1 + 1 by decide),if_pos (show 1 < 0 + 1 + 1 by decide),if_neg (show ¬ 2 < 0 + 1 + 1 by decide)]
  unfold fQ at h ⊢
  have cq:¬ qu x.f0=true:=by unfold qu;simp only [decide_eq_true_eq];omega
  rw [if_neg (show ¬ (x.f0=0∨x.f0=1) by omega),if_neg (show ¬ x.f0=17 by omega),if_neg cq,if_neg (show ¬ x.f0=2 by omega),if_pos c] at h ⊢
  exact h
 ·simp only [mv,e,List.length_cons,List.length_nil,if_pos (show 0 < 0 + 1 + 1 + 1 by decide),if_pos (show 1 < 0 + 1 + 1 + 1 by decide),if_pos (show 2 < 0 + 1 + 1 + 1 by decide)]
  unfold fQ at h ⊢
  have cq:¬ qu x.f0=true:=by unfold qu;simp only [decide_eq_true_eq];omega
  rw [if_neg (show ¬ (x.f0=0∨x.f0=1) by omega),if_neg (show ¬ x.f0=17 by omega),if_neg cq,if_neg (show ¬ x.f0=2 by omega),if_neg (show ¬ (3≤x.f0∧x.f0≤16) by omega),if_pos c] at h ⊢
  exact h
 ·simp only [mv,e,List.length_nil,if_neg (show ¬ 0 < 0 by decide),if_neg (show ¬ 1 < 0 by decide),if_neg (show ¬ 2 < 0 by decide)]
  exact h
theorem aDI (o w kk b b' x0 x1 x2:Int) (h:qu o=true∨(0≤o∧o≤18)→(0≤o∧o≤18)∨b=b') (ho:0≤o∧o≤20):lD o w kk b x0 x1 x2=lD o w kk b' x0 x1 x2:=by
 unfold lD
 by_cases h18:o≤18
 ·repeat' split
  all_goals first|rfl|omega
 ·rcases h (Or.inl (by unfold qu;simp only [decide_eq_true_eq];omega)) with h1|rfl
  ·omega
  ·rfl
theorem tK (l l':List bN) (x:bN) (φ:Int→Int) (h:lN l x=true) (hφ:∀ p∈np x,(0≤φ p∧φ p≤(l'.length:Int) - 1)∧(aC l' (φ p)).f1=(aC l p).f1):lN l' (mv φ x)=true:=by
 unfold lN at h ⊢
 simp only [Bool.and_eq_true] at h ⊢
 obtain ⟨hW,hO,hU,hP,hop⟩:=h
 have ho:=of_decide_eq_true hO
 have hw:∀ q:Nat,w3 l' (np (mv φ x)) q=w3 l (np x) q:=fun q=>by
  unfold w3
  rw [rC,List.length_map]
  by_cases hq:q < (np x).length
  ·rw [if_pos hq,if_pos hq,dP,dP,dM _ q _ (by rw [List.length_map];exact hq),dM _ q _ hq,List.getElem_map]
   exact (hφ _ (List.getElem_mem hq)).2
  ·rw [if_neg hq,if_neg hq]
 refine ⟨hW,hO,yF φ x hU,?_,?_⟩
 ·rw [rC]
  unfold mD
  rw [List.all_eq_true]
  intro p hp
  obtain ⟨q,hq,rfl⟩:=List.mem_map.1 hp
  exact decide_eq_true (hφ q hq).1
 ·rw [hw 0,hw 1,hw 2]
  show lD x.f0 x.f1 x.f2 (mv φ x).f4 _ _ _=true
  rw [aDI x.f0 x.f1 x.f2 (mv φ x).f4 x.f4 _ _ _ (fun _=>?_) ho]
  ·exact hop
  ·by_cases h18:x.f0≤18
   ·exact Or.inl ⟨ho.1,h18⟩
   ·right
    have hq:qu x.f0=true:=by unfold qu;simp only [decide_eq_true_eq];omega
    rcases iU x with ⟨e,c⟩ | ⟨e,c⟩ | ⟨e,c⟩ | ⟨e,c1,c2,c3⟩
    ·simp only [mv,e,List.length_singleton,if_neg (show ¬ 1 < 1 by decide)]
    ·omega
    ·omega
    ·exact absurd (Or.inr (Or.inr hq)) c1
theorem vW (x:bN):(0 < (np x).length→x.f3∈np x)∧(1 < (np x).length→x.f4∈np x)∧(2 < (np x).length→x.f5∈np x):=by
 rcases iU x with ⟨e,c⟩ | ⟨e,c⟩ | ⟨e,c⟩ | ⟨e,c1,c2,c3⟩ <;> rw [e] <;> simp
theorem pK (l:List bN) (y:bN) (j:Nat) (h:j < l.length):aC (l ++ [y]) (j:Int)=aC l (j:Int):=by
 rw [iG,iG,List.getD_eq_getElem?_getD,List.getD_eq_getElem?_getD,List.getElem?_append_left h]
theorem oX (l:List bN) (y:bN):aC (l ++ [y]) (l.length:Int)=y:=by
 rw [iG,List.getD_eq_getElem?_getD,List.getElem?_append_right (Nat.le_refl _),Nat.sub_self]
 rfl
theorem vA (l:List Int) (y:Int) (p:Int) (h0:0≤p) (h:p < (l.length:Int)):rd (l ++ [y]) p=rd l p:=by
 obtain ⟨j,rfl⟩:=Int.eq_ofNat_of_zero_le h0
 rw [dP,dP,List.getD_eq_getElem?_getD,List.getD_eq_getElem?_getD,List.getElem?_append_left (by omega)]
theorem pM (l:List Int) (y:Int):rd (l ++ [y]) (l.length:Int)=y:=by
 rw [dP,List.getD_eq_getElem?_getD,List.getElem?_append_right (Nat.le_refl _),Nat.sub_self]
 rfl
theorem zC (l:List bN):∀ d i,(∀ j,i≤j→j < i + d→lN (l.take j) (aC l (j:Int))=true)→xR l d i=true:=by
 intro d
 induction d with
 | zero=>intro i _;rfl
 | succ d ih =>
  intro i h
  simp only [xR,Bool.and_eq_true]
  exact ⟨h i (Nat.le_refl _) (by omega),ih (i + 1) (fun j h1 h2=>h j (by omega) (by omega))⟩
theorem gU {l:List bN} (hT:fT l=true):l.length≤80:=by
 unfold fT at hT
 rw [Bool.and_eq_true] at hT
 have:=of_decide_eq_true hT.1
 omega
theorem vB {l:List bN} (h1:1≤l.length) (h8:l.length≤80) (h:∀ j,j < l.length→lN (l.take j) (aC l (j:Int))=true):fT l=true:=by
 unfold fT
 rw [Bool.and_eq_true]
 exact ⟨decide_eq_true (by omega),zC l l.length 0 (fun j _ h2=>h j (by omega))⟩
theorem xV {out:List bN} {y:bN} (h:∀ j,j < out.length→lN (out.take j) (aC out (j:Int))=true) (hy:lN out y=true):∀ j,j < (out ++ [y]).length→lN ((out ++ [y]).take j) (aC (out ++ [y]) (j:Int))=true:=by
 intro j hj
 rw [List.length_append,List.length_singleton] at hj
 rcases Nat.lt_succ_iff_lt_or_eq.1 hj with h1|rfl
 ·rw [List.take_append_of_le_length (by omega),pK _ _ _ h1]
  exact h j h1
 ·rw [oX,List.take_append_of_le_length (Nat.le_refl _),List.take_length]
  exact hy
theorem vK (φ ψ:Int→Int) (x:bN) (h:∀ p∈np x,φ p=ψ p):mv φ x=mv ψ x:=by
 rcases iU x with ⟨e,_⟩ | ⟨e,_⟩ | ⟨e,_⟩ | ⟨e,_⟩ <;> rw [e] at h <;> simp at h <;> simp [mv,e,h]
structure zJ (l:List bN) (i:Nat) (out:List bN) (pl:List Int):Prop where
 plen:pl.length=i
 le:out.length≤i
 at_:∀ p:Nat,p < i→cW false (gR l) (p:Int)=true→(0≤rd pl (p:Int)∧rd pl (p:Int) < (out.length:Int))∧aC out (rd pl (p:Int))=mv (rd pl) (aC l (p:Int))
 nd:∀ j,j < out.length→lN (out.take j) (aC out (j:Int))=true
 of:∀ j:Nat,j < out.length→∃ p:Nat,p < i∧cW false (gR l) (p:Int)=true∧rd pl (p:Int)=(j:Int)∧aC out (j:Int)=mv (rd pl) (aC l (p:Int))
 last:∀ p:Nat,p + 1=i→cW false (gR l) (p:Int)=true→rd pl (p:Int)=(out.length:Int) - 1
theorem jM (l:List bN) (hT:fT l=true) (i:Nat) (hi:i < l.length) (h:cW false (gR l) (i:Int)=true):∀ p∈np (aC l (i:Int)),cW false (gR l) p=true:=by
 intro p hp
 have hb:=dV l hT i hi p hp
 rw [fK] at h
 have:=oT l hT l.length (lU l.length) i hi (Nat.le_refl _) (fF _) h p hp
 unfold cW
 exact this
theorem iH (l:List bN) (h:1≤l.length):cW false (gR l) ((l.length - 1:Nat):Int)=true:=by
 rw [fK]
 refine lK l _ _ _ ?_
 unfold lU
 rw [List.getD_eq_getElem?_getD,List.getElem?_set,if_pos rfl,if_pos (by rw [List.length_replicate];omega)]
 rfl
theorem zZ (l:List bN) (hT:fT l=true):∀ d i,i + d=l.length→∀ (out:List bN) (pl:List Int),zJ l i out pl→∃ r pl',Ev (fun k=>uD k l (gR l) out pl (i:Int)) r∧zJ l l.length r pl':=by
 have hl8:=gU hT
 have hM:(gR l).length=l.length:=by rw [iT,fF]
 intro d
 induction d with
 | zero =>
  intro i hi out pl V
  obtain rfl:i=l.length:=by omega
  refine ⟨out,pl,bB ?_,V⟩
  simp only [uD,if_neg (show ¬ (l.length:Int) < (l.length:Int) by omega)]
  exact bA _
 | succ d ih =>
  intro i hi out pl V
  have hpl:=V.plen
  have hle:=V.le
  have g1:(0≤(i:Int)∧(i:Int) < ((gR l).length:Int))∧(pl.length < 17592186044416∧out.length < 2932031007402):=by omega
  have hat:∀ p:Nat,p < i→rd (pl ++ [(out.length:Int)]) (p:Int)=rd pl (p:Int):=fun p hp=>vA _ _ _ (by omega) (by omega)
  have same:∀ p:Nat,p < i→mv (rd pl) (aC l (p:Int))=mv (rd (pl ++ [(out.length:Int)])) (aC l (p:Int)):=fun p hp=>vK _ _ _ (fun x hx=>by
   have hb:=dV l hT p (by omega) x hx
   obtain ⟨y,rfl⟩:=Int.eq_ofNat_of_zero_le hb.1
   exact (hat y (by omega)).symm)
  by_cases hm:cW false (gR l) (i:Int)=true
  ·have hpp:=dV l hT i (by omega)
   have hmp:=jM l hT i (by omega) hm
   have hpr:prI (pl ++ [(out.length:Int)]) (aC l (i:Int)) (np (aC l (i:Int))).length:=by
    have hmem:=vW (aC l (i:Int))
    have hlen:(((pl ++ [(out.length:Int)]).length:Nat):Int)=(i:Int) + 1:=by rw [List.length_append,List.length_singleton];omega
    refine ⟨fun h=>?_,fun h=>?_,fun h=>?_⟩
    ·have:=hpp _ (hmem.1 h);omega
    ·have:=hpp _ (hmem.2.1 h);omega
    ·have:=hpp _ (hmem.2.2 h);omega
   have hy:lN out (mv (rd (pl ++ [(out.length:Int)])) (aC l (i:Int)))=true:=by
    refine tK (l.take i) out _ _ (tA l hT i (by omega)) (fun p hp=>?_)
    have hb:=hpp p hp
    obtain ⟨q,rfl⟩:=Int.eq_ofNat_of_zero_le hb.1
    have:=V.at_ q (by omega) (hmp _ hp)
    rw [hat q (by omega),pY l i q (by omega)]
    exact ⟨by omega,by rw [this.2];rfl⟩
   have V2:zJ l (i + 1) (out ++ [mv (rd (pl ++ [(out.length:Int)])) (aC l (i:Int))]) (pl ++ [(out.length:Int)]):=by
    refine ⟨by simp [hpl],by simp;omega,fun p hp hmk=>?_,xV V.nd hy,fun j hj=>?_,fun p hp hmk=>?_⟩
    ·rcases Nat.lt_succ_iff_lt_or_eq.1 hp with h|rfl
     ·have:=V.at_ p h hmk
      rw [hat p h]
      obtain ⟨q,hq⟩:=Int.eq_ofNat_of_zero_le this.1.1
      rw [hq] at this ⊢
      rw [pK _ _ _ (by omega)]
      exact ⟨by simp;omega,this.2.trans (same p h)⟩
     ·rw [show rd (pl ++ [(out.length:Int)]) (p:Int)=(out.length:Int) from by rw [← hpl];exact pM _ _,oX]
      exact ⟨by simp;omega,rfl⟩
    ·rw [List.length_append,List.length_singleton] at hj
     rcases Nat.lt_succ_iff_lt_or_eq.1 hj with h|rfl
     ·obtain ⟨p,h1,h2,h3,h4⟩:=V.of j h
      rw [pK _ _ _ h,h4]
      exact ⟨p,by omega,h2,by rw [hat p h1];exact h3,same p h1⟩
     ·rw [oX]
      exact ⟨i,by omega,hm,by rw [← hpl];exact pM _ _,rfl⟩
    ·obtain rfl:p=i:=by omega
     rw [show rd (pl ++ [(out.length:Int)]) (p:Int)=(out.length:Int) from by rw [← hpl];exact pM _ _]
     simp
   obtain ⟨r,pl',e,h⟩:=ih (i + 1) (by omega) _ _ V2
   refine ⟨r,pl',bB ?_,h⟩
   simp only [uD,if_pos (show (i:Int) < (l.length:Int) by omega),if_pos g1,if_pos hm,eH i (show i < 4611686018427387904 by omega)]
   refine bI (a:=np (aC l (i:Int))) (f:=fun k ps=>if prI (pl ++ [(out.length:Int)]) (aC l (i:Int)) ps.length then uD k l (gR l) (out ++ [prN (pl ++ [(out.length:Int)]) (aC l (i:Int)) ps.length]) (pl ++ [(out.length:Int)]) ((i + 1:Nat):Int) else none) (oP _) ?_
   simp only [if_pos hpr]
   exact e
  ·have V2:zJ l (i + 1) out (pl ++ [(out.length:Int)]):=by
    refine ⟨by simp [hpl],by omega,fun p hp hmk=>?_,V.nd,fun j hj=>?_,fun p hp hmk=>?_⟩
    ·rcases Nat.lt_succ_iff_lt_or_eq.1 hp with h|rfl
     ·rw [hat p h]
      exact ⟨(V.at_ p h hmk).1,(V.at_ p h hmk).2.trans (same p h)⟩
     ·exact absurd hmk hm
    ·obtain ⟨p,h1,h2,h3,h4⟩:=V.of j hj
     exact ⟨p,by omega,h2,by rw [hat p h1];exact h3,by rw [h4];exact same p h1⟩
    ·obtain rfl:p=i:=by omega
     exact absurd hmk hm
   obtain ⟨r,pl',e,h⟩:=ih (i + 1) (by omega) _ _ V2
   refine ⟨r,pl',bB ?_,h⟩
   simp only [uD,if_pos (show (i:Int) < (l.length:Int) by omega),if_pos g1,if_neg hm,eH i (show i < 4611686018427387904 by omega)]
   exact e
theorem oB (l:List bN) (hT:fT l=true):∃ r pl,Ev (fun k=>eP.f k l) r∧fT r=true∧zJ l l.length r pl:=by
 have hl8:=gU hT
 have hp:=fH hT
 obtain ⟨r,pl',e,V⟩:=zZ l hT l.length 0 (by omega) [] [] ⟨rfl,Nat.le_refl _,fun p hp=>by omega,fun j hj=>by simp at hj,fun j hj=>by simp at hj,fun p hp=>by omega⟩
 have hat:=(V.at_ (l.length - 1) (by omega) (iH l hp)).1
 have hle:=V.le
 refine ⟨r,pl',?_,vB (by omega) (by omega) V.nd,V⟩
 unfold eP.f
 refine bI (a:=true) (f:=fun k t=>if t=true then (bG.f k l).bind fun is=>uD k l is [] [] 0 else some []) (by rw [← hT];exact oM l (by omega)) ?_
 simp only [if_true]
 exact bI (f:=fun k is=>uD k l is [] [] 0) (pA l hT (by omega)) e
theorem wU (l:List bN) (hT:fT l=true):∃ r,Ev (fun k=>eP.f k l) r∧fT r=true∧(aC r ((r.length:Int) - 1)).f1=(aC l ((l.length:Int) - 1)).f1 ∧
  ∀ j,j < r.length→∃ p:Nat,p < l.length∧cW false (gR l) (p:Int)=true∧(aC r (j:Int)).f0=(aC l (p:Int)).f0∧(aC r (j:Int)).f1=(aC l (p:Int)).f1∧(aC r (j:Int)).f2=(aC l (p:Int)).f2:=by
 obtain ⟨r,pl,e,h,V⟩:=oB l hT
 have hp:=fH hT
 have hat:=V.at_ (l.length - 1) (by omega) (iH l hp)
 rw [V.last (l.length - 1) (by omega) (iH l hp)] at hat
 refine ⟨r,e,h,?_,fun j hj=>?_⟩
 ·rw [hat.2]
  show (aC l ((l.length - 1:Nat):Int)).f1=_
  congr 2
  omega
 ·obtain ⟨p,h1,h2,_,h4⟩:=V.of j hj
  rw [h4]
  exact ⟨p,h1,h2,rfl,rfl,rfl⟩
theorem pJ (x:Int):0≤Go.bits .and .i64 x 255∧Go.bits .and .i64 x 255≤255:=by
 simp only [Go.bits,BitVec.toNat_and]
 have h:(BitVec.ofInt IntKind.i64.bits x).toNat &&& (BitVec.ofInt IntKind.i64.bits 255).toNat≤255:=Nat.le_trans Nat.and_le_right (by decide)
 rw [iK _ (by omega) (by omega)]
 omega
def gS (b:List Int) (i:Int):Prop:=0≤i∧i≤b.length∧b.length≤1099511627776
theorem yC {b:List Int} {i:Int} (h:Int) (hi:gS b i):∃ v i' h',dN.f b i h=some (v,i',h')∧0≤v∧v≤255∧gS b i':=by
 unfold dN.f
 obtain ⟨h0,h1,h2⟩:=hi
 by_cases hc:i < (b.length:Int)
 ·rw [if_pos hc,if_pos h0]
  exact ⟨_,_,_,rfl,(pJ _).1,(pJ _).2,by rw [iB (by omega) (by omega)];exact ⟨by omega,by omega,h2⟩⟩
 ·rw [if_neg hc]
  exact ⟨_,_,_,rfl,(pJ _).1,(pJ _).2,h0,h1,h2⟩
theorem fN {b:List Int} {i:Int} (h a:Int) (hi:gS b i) (h0:0 < a) (h1:a≤256):∃ v i' h',bO.f b i h a=some (v,i',h')∧0≤v∧v < a∧gS b i':=by
 unfold bO.f
 obtain ⟨v,i',h',e,hv0,hv1,hi'⟩:=yC h hi
 rw [if_neg (by omega),if_pos h1,e,Option.bind_some,if_neg (by omega)]
 refine ⟨_,_,_,rfl,?_,?_,hi'⟩
 ·simp only;rw [Int.tmod_eq_emod_of_nonneg hv0];exact Int.emod_nonneg _ (by omega)
 ·simp only;rw [Int.tmod_eq_emod_of_nonneg hv0];exact Int.emod_lt_of_pos _ h0
theorem mQ {b:List Int} {i:Int} (h a:Int) (hi:gS b i) (h0:0 < a) (h1:a≤256):∃ t i' h',dY.f b i h a=some (t,i',h')∧gS b i':=by
 unfold dY.f
 obtain ⟨v,i',h',e,_,_,hi'⟩:=fN h a hi h0 h1
 rw [e,Option.bind_some]
 exact ⟨_,_,_,rfl,hi'⟩
theorem yR {b:List Int} (hb:b.length≤1099511627776):gS b 0:=⟨by omega,by omega,hb⟩
def nB (x:bN):Nat:=if x.f0=19∨x.f0=20 then x.f4.toNat else 0
def qB (l:List bN):Nat:=(l.map nB).sum
theorem mS (l:List bN) (x:bN):qB (l ++ [x])=qB l + nB x:=by simp [qB]
theorem aBH (x:bN) (h:x.f0≠19) (h2:x.f0≠20):nB x=0:=by unfold nB;rw [if_neg (by rintro (h3|h3);exact h h3;exact h2 h3)]
structure gN (b:List Int) (l:List bN) (m:Nat) (g:Nat→Option (List bN × Int × Int × Int)):Prop where
 ok:∃ l' a p q,Ev g (l',a,p,q)∧gS b p∧l'.length≤l.length + m∧qB l'=qB l
theorem mP (l:List bN) (hl:l.length≤100000) (a b c d e f:Int):cA.f l a b c d e f=some (l ++ [⟨a,b,c,d,e,f⟩],(l.length:Int)):=by
 unfold cA.f
 rw [if_pos (by omega)]
theorem aDM (w:Int) (h1:1≤w) (h3:w≤3):∃ v:Int,Ev (fun k=>aH.f k w) v∧0 < v∧v≤256:=by
 obtain ⟨n,rfl⟩:=Int.eq_ofNat_of_zero_le (show 0≤w by omega)
 have h2:(2:Nat) ^ n≤2 ^ 3:=Nat.pow_le_pow_right (by decide) (by omega)
 have h4:(2:Nat) ^ 3=8:=by decide
 have h0:=Nat.two_pow_pos n
 exact ⟨((2 ^ n:Nat):Int),lH n (fun k hk=>by rw [kO n (by omega) k hk];norm_cast),by omega,by omega⟩
abbrev sS (vs:List bN):Prop:=vs.length≤100∧∀ x∈vs,x.f0=1∧1≤x.f1∧x.f1≤3
theorem pF (vs:List bN) (r:Int) (h0:0≤r) (h1:r < (vs.length:Int)):aC vs r∈vs:=by
 obtain ⟨n,rfl⟩:=Int.eq_ofNat_of_zero_le h0
 have h:n < vs.length:=by omega
 have e:aC vs (n:Int)=vs[n]:=by
  unfold aC
  simp [List.getD_eq_getElem?_getD,List.getElem?_eq_getElem h]
 rw [e]
 exact List.getElem_mem h
def dG:Nat→Nat
 | 0=>1
 | d + 1=>3 * dG d + 1
section
variable {b:List Int} {vs:List bN}
theorem tD (l:List bN) (w d:Int) (p q:Int) (R:(Nat→Option (List bN × Int × Int × Int))→Prop) (hS:∀ g f,(∀ k,g (k + 1)=f k)→R f→R g)
  (hR:∀ ws:List Int,ws.length≤vs.length→(∀ x∈ws,0≤x∧x < (vs.length:Int))→R (fun k=>if d=0 then (aU.j1 k l vs w d ws true b p q) else (if (l.length:Int) > 40 then (aU.j1 k l vs w d ws true b p q) else ((dY.f b p q 5).bind fun bt108=>(aU.j1 k l vs w d ws bt108.1 b bt108.2.1 bt108.2.2))))) (hv:sS vs) :
  ∀ e i,i + e=vs.length→∀ ws:List Int,ws.length≤i→(∀ x∈ws,0≤x∧x < (vs.length:Int))→R (fun k=>aU.l0 k l vs w d ws (i:Int) b p q):=by
 intro e
 induction e with
 | zero =>
  intro i hi ws h1 h2
  refine hS _ _ (fun k=>?_) (hR ws (by omega) h2)
  simp only [aU.l0,if_neg (show ¬ (i:Int) < (vs.length:Int) by omega)]
 | succ e ih =>
  intro i hi ws h1 h2
  have:=hv.1
  by_cases c:(aC vs (i:Int)).f1=w
  ·refine hS _ _ (fun k=>?_) (ih (i + 1) (by omega) (ws ++ [(i:Int)]) (by simp;omega) (fun x hx=>?_))
   ·simp only [aU.l0,if_pos (show (i:Int) < (vs.length:Int) by omega),if_pos (show 0≤(i:Int) by omega),if_pos c,if_pos (show ws.length < 17592186044416 by omega),eH i (show i < 4611686018427387904 by omega)]
   ·rcases List.mem_append.1 hx with h|h
    ·exact h2 x h
    ·rw [List.mem_singleton.1 h]
     omega
  ·refine hS _ _ (fun k=>?_) (ih (i + 1) (by omega) ws (by omega) h2)
   simp only [aU.l0,if_pos (show (i:Int) < (vs.length:Int) by omega),if_pos (show 0≤(i:Int) by omega),if_neg c,eH i (show i < 4611686018427387904 by omega)]
end
theorem gN.step {b:List Int} {l:List bN} {m:Nat} {g f:Nat→Option (List bN × Int × Int × Int)} (h:∀ k,g (k + 1)=f k) (e:gN b l m f):gN b l m g:=by
 obtain ⟨l',a,p,q,e,h2⟩:=e.ok
 exact ⟨l',a,p,q,iF h e,h2⟩
theorem gN.eq {b:List Int} {l:List bN} {m:Nat} {g f:Nat→Option (List bN × Int × Int × Int)} (h:∀ k,g k=f k) (e:gN b l m f):gN b l m g:=by
 obtain ⟨l',a,p,q,e,h2⟩:=e.ok
 exact ⟨l',a,p,q,tB h e,h2⟩
theorem gN.bind {b:List Int} {l:List bN} {m m1 m2:Nat} {g:Nat→Option (List bN × Int × Int × Int)} {F:Nat→List bN × Int × Int × Int→Option (List bN × Int × Int × Int)} (h:gN b l m1 g)
  (e:∀ l' a p q,gS b p→l'.length≤l.length + m1→gN b l' m2 (fun k=>F k (l',a,p,q))) (hm:m1 + m2≤m):gN b l m (fun k=>(g k).bind (F k)):=by
 obtain ⟨l',a,p,q,e1,h1,h2,h3⟩:=h.ok
 obtain ⟨l2,a2,p2,q2,f1,g1,g2,g3⟩:=(e l' a p q h1 h2).ok
 exact ⟨l2,a2,p2,q2,bI e1 f1,g1,by omega,by rw [g3,h3]⟩
theorem gN.push {b:List Int} {l:List bN} {m:Nat} (p q:Int) (hp:gS b p) (hl:l.length≤100000) (hm:1≤m) (a0 a1 a2 a3 a4 a5:Int) (h19:a0≠19) (h20:a0≠20):gN b l m (fun _=>(cA.f l a0 a1 a2 a3 a4 a5).bind fun r=>some (r.1,r.2,p,q)):=by
 rw [mP l hl]
 exact ⟨_,_,p,q,bA _,hp,by simp;omega,by rw [mS,aBH _ h19 h20];omega⟩
theorem gN.mono {b:List Int} {l:List bN} {m m':Nat} {g:Nat→Option (List bN × Int × Int × Int)} (h:gN b l m g) (hm:m≤m'):gN b l m' g:=by
 obtain ⟨l',a,p,q,e1,h1,h2,h3⟩:=h.ok
 exact ⟨l',a,p,q,e1,h1,by omega,h3⟩
section
variable {b:List Int} {vs:List bN} (hv:sS vs) {l:List bN} (hl:l.length≤100000) {w d:Int} {ws:List Int} (h1:1≤w) (h3:w≤3) {p q:Int} (hp:gS b p)
include hl h1 h3 in
theorem vC (hp:gS b p):gN b l 1 (fun k=>aU.j2 k l vs w ws false b p q):=by
 obtain ⟨v,e,v0,v1⟩:=aDM w h1 h3
 obtain ⟨r,p1,q1,hb,_,_,hp1⟩:=fN q v hp v0 v1
 refine gN.step (f:=fun k=>(aH.f k w).bind fun t123=>((bO.f b p q t123).bind fun bt124=>((cA.f l 0 w bt124.1 0 0 0).bind fun bt127=>(some (bt127.1,bt127.2,bt124.2.1,bt124.2.2))))) (fun k=>by simp only [aU.j2,Bool.false_eq_true,if_false]) ?_
 obtain ⟨l',a,p2,q2,e2,h2⟩:=(gN.push p1 q1 hp1 hl (Nat.le_refl 1) 0 w r 0 0 0 (by decide) (by decide):gN b l 1 _).ok
 refine ⟨l',a,p2,q2,bI (a:=v) (f:=fun k t123=>((bO.f b p q t123).bind fun bt124=>((cA.f l 0 w bt124.1 0 0 0).bind fun bt127=>(some (bt127.1,bt127.2,bt124.2.1,bt124.2.2))))) e ?_,h2⟩
 simp only [hb,Option.bind_some]
 exact e2
include hv hl in
theorem aBC (hw0:0 < ws.length) (hw1:ws.length≤vs.length) (hw2:∀ x∈ws,0≤x∧x < (vs.length:Int)) (hp:gS b p):gN b l 1 (fun k=>aU.j2 k l vs w ws true b p q):=by
 have hv1:=hv.1
 obtain ⟨r,p1,q1,hb,r0,r1,hp1⟩:=fN q (ws.length:Int) hp (by omega) (by omega)
 have hm:rd ws r∈ws:=by
  obtain ⟨n,rfl⟩:=Int.eq_ofNat_of_zero_le r0
  rw [dP,dM ws n _ (by omega)]
  exact List.getElem_mem _
 obtain ⟨x0,x1⟩:=hw2 _ hm
 have hx:=(hv.2 _ (pF vs (rd ws r) x0 x1)).1
 refine gN.step (f:=fun _=>(cA.f l (aC vs (rd ws r)).f0 (aC vs (rd ws r)).f1 (aC vs (rd ws r)).f2 (aC vs (rd ws r)).f3 (aC vs (rd ws r)).f4 (aC vs (rd ws r)).f5).bind fun r=>some (r.1,r.2,p1,q1)) (fun k=>?_) (gN.push p1 q1 hp1 hl (Nat.le_refl 1) _ _ _ _ _ _ (by omega) (by omega))
 simp only [aU.j2,if_true,hb,Option.bind_some,if_pos r0,if_pos r1,if_pos x0,if_pos x1]
include hv hl h1 h3 in
theorem sD (hw1:ws.length≤vs.length) (hw2:∀ x∈ws,0≤x∧x < (vs.length:Int)) (hp:gS b p):gN b l 1 (fun k=>aU.j1 k l vs w d ws true b p q):=by
 by_cases c:(ws.length:Int) > 0
 ·obtain ⟨o,p1,q1,hb,hp1⟩:=mQ q 4 hp (by decide) (by decide)
  refine gN.step (f:=fun k=>aU.j2 k l vs w ws (!o) b p1 q1) (fun k=>by simp only [aU.j1,if_true,if_pos c,hb,Option.bind_some]) ?_
  cases o with
  | true=>exact vC hl h1 h3 hp1
  | false=>exact aBC hv hl (by omega) hw1 hw2 hp1
 ·refine gN.step (f:=fun k=>aU.j2 k l vs w ws false b p q) (fun k=>by simp only [aU.j1,if_true,if_neg c]) (vC hl h1 h3 hp)
end
section
variable {b:List Int} {vs:List bN} (hv:sS vs) {m:Nat} {D:Int} (hD:∀ (w:Int) (l:List bN) (p q:Int),1≤w→w≤3→gS b p→l.length + m≤100000→gN b l m (fun k=>aU.f k b p q l vs w (wrap64 (D - 1))))
 {l:List bN} (hl:l.length + (3 * m + 1)≤100000) {w:Int} (h1:1≤w) (h3:w≤3) {p q:Int} (hp:gS b p)
include hD hl h1 h3 in
theorem tP (hp:gS b p):gN b l (3 * m + 1) (fun k=>aU.j4 k l vs w D b p q):=by
 refine gN.step (fun k=>by simp only [aU.j4];rfl) ?_
 refine gN.bind (m1:=m) (m2:=2 * m + 1) (hD w l p q h1 h3 hp (by omega)) (fun l1 a1 p1 q1 hp1 hl1=>?_) (by omega)
 refine gN.bind (m1:=m) (m2:=m + 1) (hD w l1 p1 q1 h1 h3 hp1 (by omega)) (fun l2 a2 p2 q2 hp2 hl2=>?_) (by omega)
 obtain ⟨r,p3,q3,hb,r0,r1,hp3⟩:=fN q2 10 hp2 (by decide) (by decide)
 simp only [hb,Option.bind_some]
 have hw:wrap64 (3 + r)=3 + r:=iB (by omega) (by omega)
 exact gN.push p3 q3 hp3 (by omega) (by omega) _ _ _ _ _ _ (by omega) (by omega)
include hv hD hl in
theorem aBG (h0:0 < vs.length) (hp:gS b p):gN b l (3 * m + 1) (fun k=>aU.j3 k l vs w D true b p q):=by
 have hv1:=hv.1
 obtain ⟨r,p0,q0,hb,r0,r1,hp0⟩:=fN q (vs.length:Int) hp (by omega) (by omega)
 have hx:=hv.2 _ (pF vs r r0 r1)
 refine gN.step (fun k=>by simp only [aU.j3,if_true,hb,Option.bind_some,if_pos r0,if_pos r1];rfl) ?_
 refine gN.bind (m1:=m) (m2:=2 * m + 1) (hD _ l p0 q0 hx.2.1 hx.2.2 hp0 (by omega)) (fun l1 a1 p1 q1 hp1 hl1=>?_) (by omega)
 refine gN.bind (m1:=m) (m2:=m + 1) (hD _ l1 p1 q1 hx.2.1 hx.2.2 hp1 (by omega)) (fun l2 a2 p2 q2 hp2 hl2=>?_) (by omega)
 obtain ⟨r',p3,q3,hb',r0',r1',hp3⟩:=fN q2 3 hp2 (by decide) (by decide)
 simp only [hb',Option.bind_some]
 have hw:wrap64 (13 + r')=13 + r':=iB (by omega) (by omega)
 exact gN.push p3 q3 hp3 (by omega) (by omega) _ _ _ _ _ _ (by omega) (by omega)
include hv hD hl h1 h3 in
theorem sO (hp:gS b p):gN b l (3 * m + 1) (fun k=>aU.j3 k l vs w D false b p q):=by
 have hv1:=hv.1
 obtain ⟨r,p0,q0,hb,r0,r1,hp0⟩:=fN q 8 hp (by decide) (by decide)
 by_cases z0:r=0
 ·refine gN.step (fun k=>by simp only [aU.j3,Bool.false_eq_true,if_false,hb,Option.bind_some,if_pos z0];rfl) ?_
  refine gN.bind (m1:=m) (m2:=2 * m + 1) (hD _ l p0 q0 h1 h3 hp0 (by omega)) (fun l1 a1 p1 q1 hp1 hl1=>?_) (by omega)
  exact gN.push p1 q1 hp1 (by omega) (by omega) _ _ _ _ _ _ (by decide) (by decide)
 by_cases z1:r=1
 ·by_cases c:w > 1
  ·obtain ⟨r',p1,q1,hb',r0',r1',hp1⟩:=fN q0 (wrap64 (w - 1)) hp0 (by rw [iB (by omega) (by omega)];omega) (by rw [iB (by omega) (by omega)];omega)
   rw [iB (show -9223372036854775808≤w - 1 by omega) (by omega)] at r1'
   have e1:wrap64 (1 + r')=1 + r':=iB (by omega) (by omega)
   have e2:wrap64 (w - (1 + r'))=w - (1 + r'):=iB (by omega) (by omega)
   refine gN.step (fun k=>by simp only [aU.j3,Bool.false_eq_true,if_false,hb,Option.bind_some,if_neg z0,if_pos z1,if_pos c,hb',e1,e2];rfl) ?_
   refine gN.bind (m1:=m) (m2:=2 * m + 1) (hD _ l p1 q1 (by omega) (by omega) hp1 (by omega)) (fun l1 a1 p2 q2 hp2 hl1=>?_) (by omega)
   refine gN.bind (m1:=m) (m2:=m + 1) (hD _ l1 p2 q2 (by omega) (by omega) hp2 (by omega)) (fun l2 a2 p3 q3 hp3 hl2=>?_) (by omega)
   exact gN.push p3 q3 hp3 (by omega) (by omega) _ _ _ _ _ _ (by decide) (by decide)
  ·exact gN.step (fun k=>by simp only [aU.j3,Bool.false_eq_true,if_false,hb,Option.bind_some,if_neg z0,if_pos z1,if_neg c]) (tP hD hl h1 h3 (q:=q0) hp0)
 by_cases z2:r=2
 ·by_cases c:(vs.length:Int) > 0
  ·obtain ⟨r',p1,q1,hb',r0',r1',hp1⟩:=fN q0 (vs.length:Int) hp0 (by omega) (by omega)
   have hx:=hv.2 _ (pF vs r' r0' r1')
   by_cases c2:(aC vs r').f1 > w
   ·have e1:wrap64 (wrap64 ((aC vs r').f1 - w) + 1)=(aC vs r').f1 - w + 1:=by rw [iB (show -9223372036854775808≤(aC vs r').f1 - w by omega) (by omega),iB (by omega) (by omega)]
    refine gN.step (fun k=>by simp only [aU.j3,Bool.false_eq_true,if_false,hb,Option.bind_some,if_neg z0,if_neg z1,if_pos z2,if_pos c,hb',if_pos r0',if_pos r1',if_pos c2,e1];rfl) ?_
    refine gN.bind (m1:=m) (m2:=2 * m + 1) (hD _ l p1 q1 hx.2.1 hx.2.2 hp1 (by omega)) (fun l1 a1 p2 q2 hp2 hl1=>?_) (by omega)
    obtain ⟨r3,p3,q3,hb3,_,_,hp3⟩:=fN q2 ((aC vs r').f1 - w + 1) hp2 (by omega) (by omega)
    simp only [hb3,Option.bind_some]
    exact gN.push p3 q3 hp3 (by omega) (by omega) _ _ _ _ _ _ (by decide) (by decide)
   ·exact gN.step (fun k=>by simp only [aU.j3,Bool.false_eq_true,if_false,hb,Option.bind_some,if_neg z0,if_neg z1,if_pos z2,if_pos c,hb',if_pos r0',if_pos r1',if_neg c2]) (tP hD hl h1 h3 (q:=q1) hp1)
  ·exact gN.step (fun k=>by simp only [aU.j3,Bool.false_eq_true,if_false,hb,Option.bind_some,if_neg z0,if_neg z1,if_pos z2,if_neg c]) (tP hD hl h1 h3 (q:=q0) hp0)
 by_cases z3:r=3
 ·refine gN.step (fun k=>by simp only [aU.j3,Bool.false_eq_true,if_false,hb,Option.bind_some,if_neg z0,if_neg z1,if_neg z2,if_pos z3];rfl) ?_
  refine gN.bind (m1:=m) (m2:=2 * m + 1) (hD 1 l p0 q0 (by decide) (by decide) hp0 (by omega)) (fun l1 a1 p1 q1 hp1 hl1=>?_) (by omega)
  refine gN.bind (m1:=m) (m2:=m + 1) (hD _ l1 p1 q1 h1 h3 hp1 (by omega)) (fun l2 a2 p2 q2 hp2 hl2=>?_) (by omega)
  refine gN.bind (m1:=m) (m2:=1) (hD _ l2 p2 q2 h1 h3 hp2 (by omega)) (fun l3 a3 p3 q3 hp3 hl3=>?_) (by omega)
  exact gN.push p3 q3 hp3 (by omega) (by omega) _ _ _ _ _ _ (by decide) (by decide)
 ·exact gN.step (fun k=>by simp only [aU.j3,Bool.false_eq_true,if_false,hb,Option.bind_some,if_neg z0,if_neg z1,if_neg z2,if_neg z3]) (tP hD hl h1 h3 (q:=q0) hp0)
end
theorem yQ (b:List Int) (vs:List bN) (hv:sS vs):∀ d:Nat,d≤4→∀ (w:Int),1≤w→w≤3→∀ (l:List bN) (p q:Int),gS b p→l.length + dG d≤100000→gN b l (dG d) (fun k=>aU.f k b p q l vs w (d:Int)):=by
 intro d
 induction d with
 | zero =>
  intro _ w h1 h3 l p q hp hl
  refine gN.step (f:=fun k=>aU.l0 k l vs w ((0:Nat):Int) [] ((0:Nat):Int) b p q) (fun k=>rfl) (tD l w _ p q _ (fun _ _=>gN.step) (fun ws hw1 hw2=>?_) hv vs.length 0 (by omega) [] (by simp) (by simp))
  simp only [if_pos (show ((0:Nat):Int)=0 from rfl)]
  exact sD hv (by omega) h1 h3 hw1 hw2 hp
 | succ d ih =>
  intro hd w h1 h3 l p q hp hl
  have hd1:wrap64 (((d + 1:Nat):Int) - 1)=(d:Int):=by rw [iB (by omega) (by omega)];omega
  have hD:∀ (w:Int) (l:List bN) (p q:Int),1≤w→w≤3→gS b p→l.length + dG d≤100000→gN b l (dG d) (fun k=>aU.f k b p q l vs w (wrap64 (((d + 1:Nat):Int) - 1))):=fun w l p q h1 h3 hp hl=>by rw [hd1];exact ih (by omega) w h1 h3 l p q hp hl
  simp only [dG] at hl ⊢
  refine gN.step (f:=fun k=>aU.l0 k l vs w ((d + 1:Nat):Int) [] ((0:Nat):Int) b p q) (fun k=>rfl) (tD l w _ p q _ (fun _ _=>gN.step) (fun ws hw1 hw2=>?_) hv vs.length 0 (by omega) [] (by simp) (by simp))
  simp only [if_neg (show ¬ ((d + 1:Nat):Int)=0 by omega)]
  by_cases c:(l.length:Int) > 40
  ·simp only [if_pos c]
   exact (sD hv (by omega) h1 h3 hw1 hw2 hp).mono (by omega)
  simp only [if_neg c]
  obtain ⟨o,p1,q1,hb,hp1⟩:=mQ q 5 hp (by decide) (by decide)
  simp only [hb,Option.bind_some]
  cases o with
  | true=>exact (sD hv (by omega) h1 h3 hw1 hw2 hp1).mono (by omega)
  | false =>
   by_cases c1:w=1
   ·by_cases c2:(vs.length:Int) > 0
    ·obtain ⟨o,p2,q2,hb2,hp2⟩:=mQ q1 2 hp1 (by decide) (by decide)
     refine gN.step (f:=fun k=>aU.j3 k l vs w ((d + 1:Nat):Int) o b p2 q2) (fun k=>by simp only [aU.j1,Bool.false_eq_true,if_false,if_pos c1,if_pos c2,hb2,Option.bind_some]) ?_
     cases o with
     | true=>exact aBG hv hD hl (by omega) hp2
     | false=>exact sO hv hD hl h1 h3 hp2
    ·exact gN.step (fun k=>by simp only [aU.j1,Bool.false_eq_true,if_false,if_pos c1,if_neg c2]) (sO hv hD hl h1 h3 (q:=q1) hp1)
   ·exact gN.step (fun k=>by simp only [aU.j1,Bool.false_eq_true,if_false,if_neg c1]) (sO hv hD hl h1 h3 (q:=q1) hp1)
def pO (b:List Int) (l:List bN) (bs nx:Int) (m:Nat) (g:Nat→Option (List bN × Int × Int × Int × Int × Int)):Prop :=
 ∃ l' a nx' bs' p q,Ev g (l',a,nx',bs',p,q)∧gS b p∧l'.length≤l.length + m∧((qB l':Nat):Int) + bs'=((qB l:Nat):Int) + bs∧0≤bs'∧bs'≤bs∧nx≤nx'∧nx'≤8
theorem pO.step {b:List Int} {l:List bN} {bs nx:Int} {m:Nat} {g f:Nat→Option (List bN × Int × Int × Int × Int × Int)} (h:∀ k,g (k + 1)=f k) (e:pO b l bs nx m f):pO b l bs nx m g:=by
 obtain ⟨l',a,nx',bs',p,q,e,h2⟩:=e
 exact ⟨l',a,nx',bs',p,q,iF h e,h2⟩
theorem pO.bind {b:List Int} {l l2:List bN} {bs nx bs2 nx2:Int} {m m2:Nat} {g:Nat→Option (List bN × Int × Int × Int × Int × Int)} {F:Nat→List bN × Int × Int × Int × Int × Int→Option (List bN × Int × Int × Int × Int × Int)} (h:pO b l2 bs2 nx2 m2 g)
  (e:∀ l' a nx' bs' p q,gS b p→l'.length≤l2.length + m2→((qB l':Nat):Int) + bs'=((qB l2:Nat):Int) + bs2→0≤bs'→bs'≤bs2→nx2≤nx'→nx'≤8→pO b l bs nx m (fun k=>F k (l',a,nx',bs',p,q))):pO b l bs nx m (fun k=>(g k).bind (F k)):=by
 obtain ⟨l',a,nx',bs',p,q,e1,h1,h2,h3,h4,h5,h6,h7⟩:=h
 obtain ⟨l3,a3,nx3,bs3,p3,q3,e3,g3⟩:=e l' a nx' bs' p q h1 h2 h3 h4 h5 h6 h7
 exact ⟨l3,a3,nx3,bs3,p3,q3,bI e1 e3,g3⟩
theorem pO.deep {b:List Int} {l l2:List bN} {bs nx:Int} {m m2:Nat} {g:Nat→Option (List bN × Int × Int × Int)} {F:Nat→List bN × Int × Int × Int→Option (List bN × Int × Int × Int × Int × Int)} (h:gN b l2 m2 g)
  (e:∀ l' a p q,gS b p→l'.length≤l2.length + m2→qB l'=qB l2→pO b l bs nx m (fun k=>F k (l',a,p,q))):pO b l bs nx m (fun k=>(g k).bind (F k)):=by
 obtain ⟨l',a,p,q,e1,h1,h2,h3⟩:=h.ok
 obtain ⟨l3,a3,nx3,bs3,p3,q3,e3,g3⟩:=e l' a p q h1 h2 h3
 exact ⟨l3,a3,nx3,bs3,p3,q3,bI e1 e3,g3⟩
theorem aAQ {r bs:Int} (r0:0≤r) (r1:r < 3) (b0:0 < bs) (b8:bs≤8):1≤jT r bs∧jT r bs≤3∧jT r bs≤bs:=by
 unfold jT
 rw [iB (show -9223372036854775808≤1 + r by omega) (by omega)]
 split <;> omega
def mdT (b:List Int) (nx bs p q D:Int):Option (Bool × Int × Int):=(if D > 0 then (if nx < 8 then (if bs > 0 then ((dY.f b p q 5).bind fun o=>some (!o.1,o.2.1,o.2.2)) else some (false,p,q)) else some (false,p,q)) else some (false,p,q))
theorem aBE {b:List Int} (nx bs p q D:Int) (hp:gS b p):∃ t p1 q1,mdT b nx bs p q D=some (t,p1,q1)∧gS b p1∧(t=true→D > 0∧nx < 8∧bs > 0):=by
 unfold mdT
 by_cases h1:D > 0
 ·by_cases h2:nx < 8
  ·by_cases h3:bs > 0
   ·obtain ⟨o,p1,q1,hb,hp1⟩:=mQ q 5 hp (by decide) (by decide)
    rw [if_pos h1,if_pos h2,if_pos h3,hb]
    exact ⟨!o,p1,q1,rfl,hp1,fun _=>⟨h1,h2,h3⟩⟩
   ·rw [if_pos h1,if_pos h2,if_neg h3]
    exact ⟨_,_,_,rfl,hp,fun h=>by cases h⟩
  ·rw [if_pos h1,if_neg h2]
   exact ⟨_,_,_,rfl,hp,fun h=>by cases h⟩
 ·rw [if_neg h1]
  exact ⟨_,_,_,rfl,hp,fun h=>by cases h⟩
theorem rE {b:List Int} (D:Int) (m:Nat) (hD:D > 0→∀ (l vs:List bN) (nx bs p q:Int),gS b p→0≤nx→nx≤8→0≤bs→bs≤8→sS vs→(vs.length:Int)≤nx→l.length + m≤100000→pO b l bs nx m (fun k=>dA.f k b p q l vs nx bs (wrap64 (D - 1)))) :
  ∀ (l vs:List bN) (nx bs p q:Int),gS b p→0≤nx→nx≤8→0≤bs→bs≤8→sS vs→(vs.length:Int)≤nx→l.length + (2 * m + 41)≤100000→pO b l bs nx (2 * m + 41) (fun k=>dA.f k b p q l vs nx bs D):=by
 intro l vs nx bs p q hp n0 n8 b0 b8 hv hvn hl
 obtain ⟨t,p1,q1,hT,hp1,ht⟩:=aBE nx bs p q D hp
 unfold mdT at hT
 refine pO.step (fun k=>by simp only [dA.f,hT,Option.bind_some];rfl) ?_
 cases t with
 | true =>
  obtain ⟨hd0,hn,hb⟩:=ht rfl
  obtain ⟨r,p2,q2,e2,r0,r1,hp2⟩:=fN q1 3 hp1 (by decide) (by decide)
  obtain ⟨o,p3,q3,e3,o0,o1,hp3⟩:=fN q2 2 hp2 (by decide) (by decide)
  obtain ⟨w1,w3,wb⟩:=aAQ r0 r1 hb b8
  have x1:wrap64 (nx + 1)=nx + 1:=iB (by omega) (by omega)
  have x2:wrap64 (bs - jT r bs)=bs - jT r bs:=iB (by omega) (by omega)
  have x3:wrap64 (19 + o)=19 + o:=iB (by omega) (by omega)
  simp only [if_true,e2,e3,Option.bind_some,if_pos (show vs.length < 2932031007401 by omega),x1,x2,x3]
  refine pO.bind (hD hd0 l (vs ++ [⟨1,jT r bs,nx,0,0,0⟩]) (nx + 1) (bs - jT r bs) p3 q3 hp3 (by omega) (by omega) (by omega) (by omega) ⟨by simp;omega,fun x hx=>?_⟩ (by simp;omega) (by omega)) (fun l' a nx' bs' p' q' hp' hl' hq hb0 hb1 hn0 hn1=>?_)
  ·rcases List.mem_append.1 hx with h|h
   ·exact hv.2 x h
   ·rw [List.mem_singleton.1 h]
    exact ⟨rfl,w1,w3⟩
  ·simp only [mP l' (by omega),Option.bind_some]
   have hnB:((nB (⟨19 + o,1,nx,a,jT r bs,0⟩:bN):Nat):Int)=jT r bs:=by
    unfold nB
    rw [if_pos (show 19 + o=19∨19 + o=20 by omega)]
    show ((jT r bs).toNat:Int)=_
    omega
   exact ⟨_,_,_,_,_,_,bA _,hp',by simp;omega,by rw [mS];omega,hb0,by omega,by omega,hn1⟩
 | false =>
  obtain ⟨r,p2,q2,e2,r0,r1,hp2⟩:=fN q1 5 hp1 (by decide) (by decide)
  simp only [Bool.false_eq_true,if_false,e2,Option.bind_some]
  by_cases c0:r=0∧D > 0
  ·simp only [if_pos c0]
   refine pO.bind (hD c0.2 l vs nx bs p2 q2 hp2 n0 n8 b0 b8 hv hvn (by omega)) (fun l' a nx' bs' p' q' hp' hl' hq hb0 hb1 hn0 hn1=>?_)
   simp only [mP l' (by omega),Option.bind_some]
   exact ⟨_,_,_,_,_,_,bA _,hp',by simp;omega,by rw [mS,aBH _ (by show (2:Int)≠19;decide) (by show (2:Int)≠20;decide)];omega,hb0,hb1,hn0,hn1⟩
  simp only [if_neg c0]
  by_cases c1:(r=1∨r=2)∧D > 0
  ·simp only [if_pos c1]
   refine pO.bind (hD c1.2 l vs nx bs p2 q2 hp2 n0 n8 b0 b8 hv hvn (by omega)) (fun l' a nx' bs' p' q' hp' hl' hq hb0 hb1 hn0 hn1=>?_)
   refine pO.bind (hD c1.2 l' vs nx' bs' p' q' hp' (by omega) hn1 hb0 (by omega) hv (by omega) (by omega)) (fun l2 a2 nx2 bs2 p3 q3 hp3 hl2 hq2 hb2 hb3 hn2 hn3=>?_)
   obtain ⟨o,p4,q4,e4,o0,o1,hp4⟩:=fN q3 2 hp3 (by decide) (by decide)
   have x3:wrap64 (3 + o)=3 + o:=iB (by omega) (by omega)
   simp only [e4,x3,mP l2 (by omega),Option.bind_some]
   exact ⟨_,_,_,_,_,_,bA _,hp4,by simp;omega,by rw [mS,aBH _ (by show (3 + o:Int)≠19;omega) (by show (3 + o:Int)≠20;omega)];omega,hb2,by omega,by omega,hn3⟩
  ·simp only [if_neg c1]
   refine pO.deep (yQ b vs hv 3 (by decide) 1 (by decide) (by decide) l p2 q2 hp2 (by simp only [dG];omega)) (fun l' a p' q' hp' hl' hq=>?_)
   simp only [dG] at hl'
   exact ⟨l',a,nx,bs,p',q',bA _,hp',by omega,by rw [hq],b0,Int.le_refl _,Int.le_refl _,n8⟩
def mG:Nat→Nat
 | 0=>41
 | d + 1=>2 * mG d + 41
theorem zD (b:List Int):∀ d:Nat,d≤4→∀ (l vs:List bN) (nx bs p q:Int),gS b p→0≤nx→nx≤8→0≤bs→bs≤8→sS vs→(vs.length:Int)≤nx→l.length + mG d≤100000→pO b l bs nx (mG d) (fun k=>dA.f k b p q l vs nx bs (d:Int)):=by
 intro d
 induction d with
 | zero =>
  intro _
  exact rE (b:=b) ((0:Nat):Int) 0 (fun h=>absurd h (by decide))
 | succ d ih =>
  intro hd
  have hd1:wrap64 (((d + 1:Nat):Int) - 1)=(d:Int):=by rw [iB (by omega) (by omega)];omega
  have:=rE (b:=b) ((d + 1:Nat):Int) (mG d) (fun _=>by rw [hd1];exact ih (by omega))
  exact this
def sm (f:Nat→Nat):Nat→Nat
 | 0=>0
 | n + 1=>sm f n + f n
theorem tT {f g:Nat→Nat}:∀ n,(∀ j,j < n→f j≤g j)→sm f n≤sm g n:=by
 intro n
 induction n with
 | zero=>intro _;exact Nat.le_refl _
 | succ n ih =>
  intro h
  have:=ih (fun j hj=>h j (by omega))
  have:=h n (by omega)
  simp only [sm]
  omega
theorem zT {f g:Nat→Nat}:∀ n,(∀ j,j < n→f j=g j)→sm f n=sm g n:=by
 intro n
 induction n with
 | zero=>intro _;rfl
 | succ n ih =>
  intro h
  have:=ih (fun j hj=>h j (by omega))
  have:=h n (by omega)
  simp only [sm]
  omega
theorem aAM (f g:Nat→Nat):∀ n,sm (fun j=>f j + g j) n=sm f n + sm g n:=by
 intro n
 induction n with
 | zero=>rfl
 | succ n ih=>simp only [sm,ih];omega
theorem mT {f:Nat→Nat}:∀ n,(∀ j,j < n→f j=0)→sm f n=0:=by
 intro n
 induction n with
 | zero=>intro _;rfl
 | succ n ih =>
  intro h
  have:=ih (fun j hj=>h j (by omega))
  have:=h n (by omega)
  simp only [sm]
  omega
theorem aDS {f:Nat→Nat}:∀ n j,j < n→f j≤sm f n:=by
 intro n
 induction n with
 | zero=>intro j h;omega
 | succ n ih =>
  intro j h
  simp only [sm]
  rcases Nat.lt_succ_iff_lt_or_eq.1 h with h1|rfl
  ·have:=ih j h1;omega
  ·omega
theorem aBX (a c:Nat):∀ n,sm (fun j=>if a=j then c else 0) n=if a < n then c else 0:=by
 intro n
 induction n with
 | zero=>rfl
 | succ n ih =>
  simp only [sm,ih]
  by_cases h:a < n
  ·rw [if_pos h,if_neg (by omega),if_pos (by omega)];rfl
  ·by_cases h2:a=n
   ·rw [if_neg h,if_pos h2,if_pos (by omega)];omega
   ·rw [if_neg h,if_neg h2,if_neg (by omega)]
theorem jD (f:Nat→Nat) (n:Nat):∀ V:List Nat,(∀ j∈V,j < n)→(V.map f).sum=sm (fun j=>V.count j * f j) n:=by
 intro V
 induction V with
 | nil=>intro _;rw [mT];rfl;intro j _;simp
 | cons a V ih =>
  intro h
  have ha:=h a (List.mem_cons_self ..)
  rw [List.map_cons,List.sum_cons,ih (fun j hj=>h j (List.mem_cons_of_mem _ hj))]
  have e:sm (fun j=>(a :: V).count j * f j) n=sm (fun j=>V.count j * f j + (if a=j then f a else 0)) n:=zT n (fun j _=>by
   rw [List.count_cons]
   by_cases he:a=j
   ·subst he
    simp [Nat.add_mul]
   ·simp [he])
  rw [e,aAM,aBX,if_pos ha]
  omega
def mC (l:List bN) (H:List Bool):Nat→Nat→List Nat
 | 0,_=>[]
 | d + 1,i=>if cW false H (i:Int)=true then i :: (np (aC l (i:Int))).flatMap (fun p=>mC l H d p.toNat) else []
theorem vI (l:List bN) (hT:fT l=true):∀ d i,i < d→i < l.length→cW false (gR l) (i:Int)=true→∀ j∈mC l (iD l) d i,j≤i∧cW false (iD l) (j:Int)=true∧cW false (gR l) (j:Int)=true:=by
 intro d
 induction d with
 | zero=>intro i h;omega
 | succ d ih =>
  intro i hd hi hm j hj
  simp only [mC] at hj
  split at hj
  ·next hh =>
   rcases List.mem_cons.1 hj with rfl|hj
   ·exact ⟨Nat.le_refl _,hh,hm⟩
   ·obtain ⟨p,hp,hj⟩:=List.mem_flatMap.1 hj
    have hb:=dV l hT i hi p hp
    have hmp:=jM l hT i hi hm p hp
    obtain ⟨q,rfl⟩:=Int.eq_ofNat_of_zero_le hb.1
    have:=ih q (by omega) (by omega) hmp j (by simpa using hj)
    exact ⟨by omega,this.2⟩
  ·cases hj
theorem qU (l:List bN) (hT:fT l=true) (p:Nat) (hp:cW false (iD l) (p:Int)=true):∀ d i,i < d→i < l.length→cW false (iD l) (i:Int)=true →
  (mC l (iD l) d i).count p=(if p=i then 1 else 0) + ((mC l (iD l) d i).map fun j:Nat=>(np (aC l (j:Int))).count (p:Int)).sum:=by
 intro d
 induction d with
 | zero=>intro i h;omega
 | succ d ih =>
  intro i hd hi hh
  simp only [mC,if_pos hh]
  have hb:=dV l hT i hi
  have key:∀ ps:List Int,(∀ x∈ps,0≤x∧x≤(i:Int) - 1)→(ps.flatMap fun x=>mC l (iD l) d x.toNat).count p=ps.count (p:Int) + ((ps.flatMap fun x=>mC l (iD l) d x.toNat).map fun j:Nat=>(np (aC l (j:Int))).count (p:Int)).sum:=by
   intro ps
   induction ps with
   | nil=>intro _;rfl
   | cons x ps ih2 =>
    intro hx
    have hx0:=hx x (List.mem_cons_self ..)
    have:=ih2 (fun y hy=>hx y (List.mem_cons_of_mem _ hy))
    rw [List.flatMap_cons,List.count_append,List.map_append,List.sum_append,this,List.count_cons]
    obtain ⟨q,rfl⟩:=Int.eq_ofNat_of_zero_le hx0.1
    rw [Int.toNat_natCast]
    by_cases hq:cW false (iD l) (q:Int)=true
    ·rw [ih q (by omega) (by omega) hq]
     by_cases e:p=q
     ·subst e
      simp
      omega
     ·rw [if_neg e]
      have:¬ ((q:Int) == (p:Int))=true:=by simp;omega
      rw [if_neg this]
      omega
    ·have hz:mC l (iD l) d q=[]:=by
      cases d with
      | zero=>rfl
      | succ d=>simp only [mC,if_neg hq]
     rw [hz]
     have:¬ ((q:Int) == (p:Int))=true:=fun e=>by
      have e2:=beq_iff_eq.1 e
      obtain rfl:q=p:=by omega
      exact hq hp
     rw [if_neg this]
     simp
  rw [List.count_cons,List.map_cons,List.sum_cons,key _ hb]
  by_cases e:p=i
  ·subst e
   simp
   omega
  ·rw [if_neg e,if_neg (by simp;omega)]
   omega
theorem wH (ps:List Int):∀ (ms:List Bool) (j:Nat),(rN ms ps).getD j false=true→ms.getD j false=true∨∃ p∈ps,p.toNat=j:=by
 induction ps with
 | nil=>intro ms j h;exact Or.inl h
 | cons q ps ih =>
  intro ms j h
  rcases ih (ms.set q.toNat true) j h with h1 | ⟨p,hp,e⟩
  ·by_cases e:q.toNat=j
   ·exact Or.inr ⟨q,List.mem_cons_self ..,e⟩
   ·rw [List.getD_eq_getElem?_getD,List.getElem?_set,if_neg e,← List.getD_eq_getElem?_getD] at h1
    exact Or.inl h1
  ·exact Or.inr ⟨p,List.mem_cons_of_mem _ hp,e⟩
theorem wQ (l:List bN) (hT:fT l=true):∀ d (ms:List Bool) (j:Nat),d≤l.length→(mA l d ms).getD j false=true→ms.getD j false=true∨∃ i,i < d∧(mA l d ms).getD i false=true∧∃ p∈np (aC l (i:Int)),p.toNat=j:=by
 intro d
 induction d with
 | zero=>intro ms j _ h;exact Or.inl h
 | succ d ih =>
  intro ms j hd h
  unfold mA at h ⊢
  rcases ih _ j (by omega) h with h1 | ⟨i,hi,h1,h2⟩
  ·split at h1
   ·next hc =>
    rcases wH _ _ _ h1 with h2|h2
    ·exact Or.inl h2
    ·right
     refine ⟨d,by omega,?_,h2⟩
     rw [if_pos hc]
     refine lK l d _ _ (oC _ _ _ ?_)
     rw [fK] at hc
     exact hc
   ·exact Or.inl h1
  ·exact Or.inr ⟨i,by omega,h1,h2⟩
theorem tM (l:List bN) (hT:fT l=true) (p:Nat) (hp:cW false (gR l) (p:Int)=true) (hne:p≠l.length - 1):∃ j,p < j∧j < l.length∧cW false (gR l) (j:Int)=true∧(p:Int)∈np (aC l (j:Int)):=by
 rw [fK] at hp
 rcases wQ l hT l.length (lU l.length) p (Nat.le_refl _) hp with h | ⟨i,hi,h1,q,hq,e⟩
 ·exfalso
  unfold lU at h
  rw [List.getD_eq_getElem?_getD,List.getElem?_set,if_neg (by omega),List.getElem?_replicate] at h
  split at h <;> simp at h
 ·have hb:=dV l hT i hi q hq
  have e2:(p:Int)=q:=by omega
  refine ⟨i,by omega,hi,by rw [fK];exact h1,by rw [e2];exact hq⟩
theorem zV (l:List bN) (j:Nat) (hj:j < l.length):cW false (iD l) (j:Int)=true↔(qu (aC l (j:Int)).f0=true∨∃ p∈np (aC l (j:Int)),cW false (nI l j) p=true):=by
 rw [qC l j l.length hj,Bool.or_eq_true,List.any_eq_true]
theorem aDV (l:List bN) (hT:fT l=true) (j p:Nat) (hj:j < l.length) (hp:(p:Int)∈np (aC l (j:Int))) (h:cW false (iD l) (p:Int)=true):cW false (iD l) (j:Int)=true:=by
 have hb:=dV l hT j hj _ hp
 exact (zV l j hj).2 (Or.inr ⟨_,hp,by rw [wJ l p j l.length (by omega) (by omega)];exact h⟩)
theorem xT (l:List bN) (M:List Bool) (p:Nat):∀ i,oG l M i p=sm (fun j=>if cW false M (j:Int)=true then (np (aC l (j:Int))).count (p:Int) else 0) i:=by
 intro i
 induction i with
 | zero=>rfl
 | succ i ih=>simp only [oG,sm,ih]
abbrev kN (l:List bN):List Nat:=mC l (iD l) l.length (l.length - 1)
theorem jZ {l:List bN} (hT:fT l=true) {j:Nat} (h:j∈kN l):j < l.length∧j≤l.length - 1∧cW false (iD l) (j:Int)=true∧cW false (gR l) (j:Int)=true:=by
 have hp:=fH hT
 have:=vI l hT l.length (l.length - 1) (by omega) (by omega) (iH l hp) j h
 exact ⟨by omega,this⟩
theorem qM {l:List bN} (hT:fT l=true) {j:Nat} (h:j∈kN l):cW false (iD l) ((l.length - 1:Nat):Int)=true:=by
 have hp:=fH hT
 obtain ⟨d,hd⟩:∃ d,l.length=d + 1:=⟨l.length - 1,by omega⟩
 cases hc:cW false (iD l) ((l.length - 1:Nat):Int) with
 | true=>rfl
 | false =>
  have:kN l=[]:=by
   unfold kN
   generalize l.length - 1=r at hc
   rw [hd]
   simp only [mC,hc,Bool.false_eq_true,if_false]
  rw [this] at h
  cases h
theorem lR {l:List bN} (hT:fT l=true) {p:Nat} (h:p∈kN l):(kN l).count p=(if p=l.length - 1 then 1 else 0) + sm (fun j=>(kN l).count j * (np (aC l (j:Int))).count (p:Int)) l.length:=by
 have hp:=fH hT
 rw [← jD (fun j=>(np (aC l (j:Int))).count (p:Int)) l.length (kN l) (fun j hj=>(jZ hT hj).1)]
 exact qU l hT p (jZ hT h).2.2.1 l.length (l.length - 1) (by omega) (by omega) (qM hT h)
theorem rS {l:List bN} (hT:fT l=true) {j p:Nat} (hj:j < l.length) (h:j≤p):(np (aC l (j:Int))).count (p:Int)=0:=by
 rw [List.count_eq_zero]
 intro hm
 have:=dV l hT j hj _ hm
 omega
theorem zY {l:List bN} (S:lO l):∀ p,(kN l).count p≤1:=by
 have hT:=S.tm
 have main:∀ d p,l.length - 1≤p + d→(kN l).count p≤1:=by
  intro d
  induction d with
  | zero =>
   intro p hp
   by_cases hV:p∈kN l
   ·have hm:=jZ hT hV
    obtain rfl:p=l.length - 1:=by omega
    rw [lR hT hV,if_pos rfl,mT _ (fun j hj=>by rw [rS hT hj (by omega)];rfl)]
    exact Nat.le_refl _
   ·rw [List.count_eq_zero.2 hV]
    omega
  | succ d ih =>
   intro p hp
   by_cases hV:p∈kN l
   ·have hm:=jZ hT hV
    by_cases e:p=l.length - 1
    ·rw [lR hT hV,if_pos e,mT _ (fun j hj=>by rw [rS hT hj (by omega)];rfl)]
     exact Nat.le_refl _
    ·rw [lR hT hV,if_neg e,Nat.zero_add]
     refine Nat.le_trans (tT l.length (fun j hj=>?_)) (Nat.le_trans (Nat.le_of_eq (xT l (gR l) p l.length).symm) (S.use p hm.1 hm.2.2.2 hm.2.2.1))
     by_cases hc:j≤p
     ·rw [rS hT hj hc]
      exact Nat.zero_le _
     ·by_cases hjV:j∈kN l
      ·rw [if_pos (jZ hT hjV).2.2.2]
       have h1:=ih j (by omega)
       have:=Nat.mul_le_mul_right ((np (aC l (j:Int))).count (p:Int)) h1
       rw [Nat.one_mul] at this
       exact this
      ·rw [List.count_eq_zero.2 hjV,Nat.zero_mul]
       exact Nat.zero_le _
   ·rw [List.count_eq_zero.2 hV]
    omega
 exact fun p=>main l.length p (by omega)
theorem nQ {l:List bN} (S:lO l):(kN l).Nodup:=List.nodup_iff_count.2 (zY S)
theorem aCL {l:List bN} (hT:fT l=true):∀ d p,l.length - 1≤p + d→p < l.length→cW false (gR l) (p:Int)=true→cW false (iD l) (p:Int)=true→p∈kN l:=by
 have root:cW false (iD l) ((l.length - 1:Nat):Int)=true→l.length - 1∈kN l:=fun h=>by
  have hp:=fH hT
  obtain ⟨d,hd⟩:∃ d,l.length=d + 1:=⟨l.length - 1,by omega⟩
  unfold kN
  generalize l.length - 1=r at h
  rw [hd]
  simp only [mC,h,if_true]
  exact List.mem_cons_self ..
 intro d
 induction d with
 | zero =>
  intro p h1 h2 hm hh
  obtain rfl:p=l.length - 1:=by omega
  exact root hh
 | succ d ih =>
  intro p h1 h2 hm hh
  by_cases e:p=l.length - 1
  ·subst e
   exact root hh
  ·obtain ⟨j,hj1,hj2,hjm,hjp⟩:=tM l hT p hm e
   have hjh:=aDV l hT j p hj2 hjp hh
   have hjV:=ih j (by omega) hj2 hjm hjh
   have hroot:=qM hT hjV
   have hpos:=fH hT
   have hc:=qU l hT p hh l.length (l.length - 1) (by omega) (by omega) hroot
   rw [if_neg e,Nat.zero_add,jD _ l.length (kN l) (fun j hj=>(jZ hT hj).1)] at hc
   have hg:=aDS (f:=fun j=>(kN l).count j * (np (aC l (j:Int))).count (p:Int)) l.length j hj2
   have h3:0 < (kN l).count j:=List.count_pos_iff.2 hjV
   have h4:0 < (np (aC l (j:Int))).count (p:Int):=List.count_pos_iff.2 hjp
   have h5:=Nat.mul_pos h3 h4
   exact List.count_pos_iff.1 (by rw [hc];omega)
abbrev qp (l:List bN) (j:Nat):Int × Int:=((aC l (j:Int)).f2,(aC l (j:Int)).f4)
abbrev qs (l:List bN) (V:List Nat):List Nat:=V.filter fun j=>qu (aC l (j:Int)).f0
theorem qF (l:List bN) (hT:fT l=true) (d i:Nat) (hd:i < d) (hi:i < l.length) (hm:cW false (gR l) (i:Int)=true) (hN:(mC l (iD l) d i).Nodup):(mC l (iD l) d i).length≤l.length:=by
 have h:=jD (fun _=>1) l.length (mC l (iD l) d i) (fun j hj=>by have:=vI l hT d i hd hi hm j hj;omega)
 have h1:((mC l (iD l) d i).map fun _=>1).sum=(mC l (iD l) d i).length:=by
  generalize mC l (iD l) d i=V
  induction V with
  | nil=>rfl
  | cons a V ih=>rw [List.map_cons,List.sum_cons,List.length_cons,ih];omega
 have h2:=tT (f:=fun j=>(mC l (iD l) d i).count j * 1) (g:=fun _=>1) l.length (fun j _=>by have:=List.nodup_iff_count.1 hN j;omega)
 have h3:∀ n,sm (fun _=>1) n=n:=by
  intro n
  induction n with
  | zero=>rfl
  | succ n ih=>simp only [sm,ih]
 rw [h3] at h2
 omega
theorem zH {l:List bN} (S:lO l):∀ d i,i < d→i < l.length→cW false (gR l) (i:Int)=true→(mC l (iD l) d i).Nodup→∀ tn:Bool,∃ q,Ev (fun k=>dL.f k l (iD l) (i:Int) tn) q∧q.map (fun x=>(x.f1,x.f2))=(qs l (mC l (iD l) d i)).map (qp l):=by
 have hT:=S.tm
 have hl8:=gU hT
 have hH:(iD l).length=l.length:=gV l l.length
 intro d
 induction d with
 | zero=>intro i h;omega
 | succ d ih =>
  intro i hd hi hm hN tn
  have g:(0≤(i:Int)∧(i:Int) < (l.length:Int))∧(i:Int) < ((iD l).length:Int):=by omega
  have len:∀ (q:List eE) (V:List Nat),q.map (fun x=>(x.f1,x.f2))=(qs l V).map (qp l)→V.length≤l.length→q.length≤80:=fun q V e hV=>by
   have h1:=congrArg List.length e
   rw [List.length_map,List.length_map] at h1
   have:(qs l V).length≤V.length:=List.length_filter_le _ _
   omega
  cases hh:cW false (iD l) (i:Int) with
  | false =>
   refine ⟨[],bB ?_,?_⟩
   ·simp only [dL.f,if_pos g,hh,Bool.false_eq_true,if_false]
    exact bA _
   ·simp only [mC,hh,Bool.false_eq_true,if_false]
    rfl
  | true =>
   have hv:mC l (iD l) (d + 1) i=i :: (np (aC l (i:Int))).flatMap (fun p=>mC l (iD l) d p.toNat):=by simp only [mC,hh,if_true]
   rw [hv] at hN ⊢
   have hN2:=(List.nodup_cons.1 hN).2
   have hpp:=dV l hT i hi
   have hmp:=jM l hT i hi hm
   have hou:=zA (S.out i hi hm hh)
   by_cases h2:(aC l (i:Int)).f0=2
   ·have hnp:np (aC l (i:Int))=[(aC l (i:Int)).f3]:=by unfold np parts;rw [if_pos (Or.inl h2)]
    rw [hnp] at hpp hmp hN2 ⊢
    have hb:=hpp _ (List.mem_singleton.2 rfl)
    have hm3:=hmp _ (List.mem_singleton.2 rfl)
    obtain ⟨p,hp⟩:=Int.eq_ofNat_of_zero_le hb.1
    rw [hp] at hb hm3 hN2 ⊢
    simp only [List.flatMap_cons,List.flatMap_nil,List.append_nil,Int.toNat_natCast] at hN2 ⊢
    obtain ⟨q,e,hq⟩:=ih p (by omega) (by omega) hm3 hN2 (!tn)
    refine ⟨q,bB ?_,?_⟩
    ·simp only [dL.f,if_pos g,hh,if_true,if_pos h2,hp]
     exact e
    ·rw [hq]
     have:qu (aC l (i:Int)).f0=false:=by rw [h2];rfl
     simp only [qs,List.filter_cons,this,Bool.false_eq_true,if_false]
   by_cases hQ:qu (aC l (i:Int)).f0=true
   ·have hQ2:=(iZ _).1 hQ
    have hnp:=(kC l hT i hi hQ).2.2.1
    rw [hnp] at hpp hmp hN2 ⊢
    have hb:=hpp _ (List.mem_singleton.2 rfl)
    have hm3:=hmp _ (List.mem_singleton.2 rfl)
    obtain ⟨p,hp⟩:=Int.eq_ofNat_of_zero_le hb.1
    rw [hp] at hb hm3 hN2 ⊢
    simp only [List.flatMap_cons,List.flatMap_nil,List.append_nil,Int.toNat_natCast] at hN2 ⊢
    obtain ⟨q,e,hq⟩:=ih p (by omega) (by omega) hm3 hN2 tn
    have hlq:=len q _ hq (qF l hT d p (by omega) (by omega) hm3 hN2)
    refine ⟨[⟨((aC l (i:Int)).f0 == 19) != tn,(aC l (i:Int)).f2,(aC l (i:Int)).f4⟩] ++ q,bB ?_,?_⟩
    ·simp only [dL.f,if_pos g,hh,if_true,if_neg h2,if_pos hQ2,hp]
     refine bI e ?_
     simp only [if_pos (show q.length < 5864062014804 by omega)]
     exact bA _
    ·simp only [qs,List.filter_cons,hQ,if_true,List.map_cons,List.map_append,List.map_nil,hq]
     rfl
   ·have h34:(aC l (i:Int)).f0=3∨(aC l (i:Int)).f0=4:=by
     rcases hou with h|h|h|h
     ·exact absurd h h2
     ·exact Or.inl h
     ·exact Or.inr h
     ·exact absurd h hQ
    have hnp:np (aC l (i:Int))=[(aC l (i:Int)).f3,(aC l (i:Int)).f4]:=by
     rcases iU (aC l (i:Int)) with ⟨e,c⟩ | ⟨e,c⟩ | ⟨e,c⟩ | ⟨e,c1,c2,c3⟩
     ·rcases c with c|c|c
      ·omega
      ·omega
      ·exact absurd c hQ
     ·exact e
     ·omega
     ·omega
    rw [hnp] at hpp hmp hN2 ⊢
    have hb:=hpp _ (List.mem_cons_self ..)
    have hm3:=hmp _ (List.mem_cons_self ..)
    have hb4:=hpp (aC l (i:Int)).f4 (by simp)
    have hm4:=hmp (aC l (i:Int)).f4 (by simp)
    obtain ⟨p,hp⟩:=Int.eq_ofNat_of_zero_le hb.1
    obtain ⟨p',hp'⟩:=Int.eq_ofNat_of_zero_le hb4.1
    rw [hp] at hb hm3 hN2 ⊢
    rw [hp'] at hb4 hm4 hN2 ⊢
    simp only [List.flatMap_cons,List.flatMap_nil,List.append_nil,Int.toNat_natCast] at hN2 ⊢
    have hNA:=List.nodup_append.1 hN2
    obtain ⟨q,e,hq⟩:=ih p (by omega) (by omega) hm3 hNA.1 tn
    obtain ⟨q',e',hq'⟩:=ih p' (by omega) (by omega) hm4 hNA.2.1 tn
    have hlq:=len q _ hq (qF l hT d p (by omega) (by omega) hm3 hNA.1)
    have hlq':=len q' _ hq' (qF l hT d p' (by omega) (by omega) hm4 hNA.2.1)
    refine ⟨q ++ q',bB ?_,?_⟩
    ·have hn:¬ ((aC l (i:Int)).f0=19∨(aC l (i:Int)).f0=20):=by omega
     simp only [dL.f,if_pos g,hh,if_true,if_neg h2,if_neg hn,hp,hp']
     refine bI e (bI e' ?_)
     simp only [if_pos (show q.length + q'.length < 5864062014805 by omega)]
     exact bA _
    ·simp only [qs,List.filter_cons,hQ,Bool.false_eq_true,if_false,List.filter_append,List.map_append,hq,hq']
structure pD (l:List bN) (q:List eE):Prop where
 map:q.map (fun x=>(x.f1,x.f2))=(qs l (kN l)).map (qp l)
 nd:(qs l (kN l)).Nodup
 mem:∀ j,j∈qs l (kN l)↔j < l.length∧rQ l (gR l) j
theorem aDU {l:List bN} (S:lO l):∃ q,Ev (fun k=>dL.f k l (iD l) ((l.length:Int) - 1) false) q∧pD l q:=by
 have hT:=S.tm
 have hp:=fH hT
 obtain ⟨q,e,h⟩:=zH S l.length (l.length - 1) (by omega) (by omega) (iH l hp) (nQ S) false
 refine ⟨q,by rw [show ((l.length:Int) - 1)=((l.length - 1:Nat):Int) from by omega];exact e,h,List.Nodup.sublist List.filter_sublist (nQ S),fun j=>?_⟩
 rw [List.mem_filter]
 constructor
 ·rintro ⟨h1,h2⟩
  have:=jZ hT h1
  exact ⟨this.1,this.2.2.2,h2⟩
 ·rintro ⟨h1,h2,h3⟩
  exact ⟨aCL hT l.length j (by omega) h1 h2 ((zV l j h1).2 (Or.inl h3)),h3⟩
theorem uF {α:Type} (x:Option α):(x.bind fun t=>some t)=x:=by cases x <;> rfl
theorem wm (w:Nat) (h8:w≤8) (v:Int) (h0:0≤v) (h1:v < (2:Int) ^ w):lE (w:Int) v:=⟨h0,by rw [Int.toNat_natCast];exact h1⟩
theorem qN (W:Int) (h1:1≤W) (t:Bool) {v:Int} (h:dQ.f t=some v):lE W v:=by
 refine yW W h1 v ?_
 cases t
 ·exact Or.inl (Option.some.inj h).symm
 ·exact Or.inr (Option.some.inj h).symm
theorem nK (n:Nat) (h1:1≤n) (h8:n≤8) (a b:Int) (I:Option Int) (v:Int) (hI:0≤a→a < (2:Int) ^ n→0≤b→b < (2:Int) ^ n→I=some v→lE (n:Int) v) (h:((cT.f (n:Int) a b).bind fun t=>if t=true then I else some 0)=some v):lE (n:Int) v:=by
 rw [rU n h1 h8] at h
 cases ho:(gQ n a && gQ n b) with
 | false =>
  rw [ho] at h
  obtain rfl:=Option.some.inj h
  exact gO _
 | true =>
  rw [ho] at h
  simp only [Bool.and_eq_true,gQ,decide_eq_true_eq] at ho
  exact hI ho.1.1 ho.1.2 ho.2.1 ho.2.2 h
theorem rB (n:Nat) (h8:n≤8) (x v:Int) (h:((dE.f (n:Int) x).bind fun t=>some t)=some v):lE (n:Int) v:=by
 rw [nD n h8] at h
 obtain rfl:=Option.some.inj h
 exact tW n x
theorem uV (o:Int) (n:Nat) (h1:1≤n) (h8:n≤8) (a b v:Int) (ha:lE (n:Int) a) (hb:lE (n:Int) b) (h:dU.f o (n:Int) a b=some v):lE (n:Int) v:=by
 have hp:=gD n h8
 have hm:=lW n h8
 unfold dU.f at h
 split at h
 ·obtain rfl:=Option.some.inj h
  exact (rW n h8 a b ha hb).1
 split at h
 ·obtain rfl:=Option.some.inj h
  exact (rW n h8 a b ha hb).2.1
 split at h
 ·obtain rfl:=Option.some.inj h
  exact (rW n h8 a b ha hb).2.2
 split at h
 ·rw [uF] at h
  exact nK n h1 h8 a b _ v (fun _ _ _ _ h=>rB n h8 _ v h) h
 split at h
 ·rw [uF] at h
  exact nK n h1 h8 a b _ v (fun _ _ _ _ h=>rB n h8 _ v h) h
 split at h
 ·rw [uF] at h
  exact nK n h1 h8 a b _ v (fun _ _ _ _ h=>rB n h8 _ v h) h
 split at h
 ·rw [uF] at h
  refine nK n h1 h8 a b _ v (fun a0 a1 b0 b1 h=>?_) h
  rw [sW n h8,if_pos (show (0:Int)≤(n:Int) by omega),hm] at h
  split at h
  ·obtain rfl:=Option.some.inj h
   exact wm n h8 _ (by omega) (by omega)
  ·obtain rfl:=Option.some.inj h
   have h2:Int.tdiv a b≤a:=Int.tdiv_le_self _ a0
   have h3:0≤Int.tdiv a b:=Int.tdiv_nonneg a0 b0
   rw [show wrap64 (Int.tdiv a b)=Int.tdiv a b from by unfold wrap64;omega]
   exact wm n h8 _ h3 (by omega)
 split at h
 ·rw [uF] at h
  refine nK n h1 h8 a b _ v (fun a0 a1 b0 b1 h=>?_) h
  split at h
  ·obtain rfl:=Option.some.inj h
   exact wm n h8 _ a0 a1
  ·obtain rfl:=Option.some.inj h
   rw [Int.tmod_eq_emod_of_nonneg a0]
   have h2:0≤a % b:=Int.emod_nonneg _ (by assumption)
   have h3:a % b < b:=Int.emod_lt_of_pos _ (by omega)
   exact wm n h8 _ h2 (by omega)
 split at h
 ·rw [uF] at h
  refine nK n h1 h8 a b _ v (fun a0 a1 b0 b1 h=>?_) h
  split at h
  ·obtain rfl:=Option.some.inj h
   exact gO _
  split at h
  ·exact rB n h8 _ v h
  ·cases h
 ·rw [uF] at h
  refine nK n h1 h8 a b _ v (fun a0 a1 b0 b1 h=>?_) h
  split at h
  ·obtain rfl:=Option.some.inj h
   exact gO _
  ·obtain ⟨j,rfl⟩:=Int.eq_ofNat_of_zero_le b0
   obtain ⟨x,rfl⟩:=Int.eq_ofNat_of_zero_le a0
   have hj:j≤8:=by omega
   rw [sW j hj,if_pos (by omega),mO x j (by omega)] at h
   obtain rfl:=Option.some.inj h
   have hle:x / 2 ^ j≤x:=Nat.div_le_self _ _
   generalize x / 2 ^ j=z at hle
   exact wm n h8 _ (by omega) (by omega)
theorem aCD (n:Nat) (h1:1≤n) (h8:n≤8) (a v:Int) (h:gP.f (n:Int) a=some v):lE (n:Int) v:=by
 have hp:=gD n h8
 have hm:=lW n h8
 unfold gP.f at h
 rw [kV n h1 h8,sW n h8,if_pos (show (0:Int)≤(n:Int) by omega),hm] at h
 cases ho:gQ n a with
 | false =>
  rw [ho] at h
  obtain rfl:=Option.some.inj h
  exact gO _
 | true =>
  rw [ho] at h
  simp only [gQ,decide_eq_true_eq] at ho
  obtain rfl:=Option.some.inj h
  rw [show wrap64 ((2:Int) ^ n - 1 - a)=(2:Int) ^ n - 1 - a from by unfold wrap64;omega]
  exact wm n h8 _ (by omega) (by omega)
theorem yA (u:Int) (n:Nat) (h8:n≤8) (a low v:Int) (h:gE.f u a low (n:Int)=some v):lE (n:Int) v:=by
 unfold gE.f at h
 obtain ⟨t,_,h⟩:=Option.bind_eq_some_iff.1 h
 split at h
 ·obtain ⟨t,_,h⟩:=Option.bind_eq_some_iff.1 h
  split at h
  ·obtain ⟨t,_,h⟩:=Option.bind_eq_some_iff.1 h
   split at h
   ·split at h
    ·exact rB n h8 _ v h
    ·cases h
   ·obtain rfl:=Option.some.inj h
    exact gO _
  ·obtain rfl:=Option.some.inj h
   exact gO _
 ·obtain rfl:=Option.some.inj h
  exact gO _
theorem aBS (W w a b v:Int) (h1:1≤W) (h:gH.f w a b=some v):lE W v:=by
 unfold gH.f at h
 obtain ⟨t,_,h⟩:=Option.bind_eq_some_iff.1 h
 split at h
 ·rw [uF] at h
  exact qN W h1 _ h
 ·rw [uF] at h
  exact qN W h1 _ h
theorem oZ (W w a b v:Int) (h1:1≤W) (h:eK.f w a b=some v):lE W v:=by
 unfold eK.f at h
 obtain ⟨t,_,h⟩:=Option.bind_eq_some_iff.1 h
 split at h
 ·obtain ⟨x,_,h⟩:=Option.bind_eq_some_iff.1 h
  obtain ⟨y,_,h⟩:=Option.bind_eq_some_iff.1 h
  rw [uF] at h
  exact qN W h1 _ h
 ·rw [uF] at h
  exact qN W h1 _ h
theorem aCE (o W K A B C w a b c x0 x1 x2:Int) (hK : -9223372036854775808≤K∧K≤9223372036854775807) (hW:1≤W∧W≤8) (ho:0≤o∧o≤18∧o≠1) (hop:lD o W K B x0 x1 x2=true)
  (hj:o=16→w=x0∧(1≤x0∧x0≤8)∧(1≤x1∧x1≤8)) (ha:lE x0 a) (hb:lE x1 b) (hc:lE x2 c):lE W (yK o W K A B C w a b c):=by
 obtain ⟨K0,e⟩:=(mX o W K A B C w a b c hK).1
 have h:=e (K0 + 3) (by omega)
 clear e
 generalize yK o W K A B C w a b c=v at h ⊢
 dsimp only at h
 rw [apI] at h
 cases hg:apG W w a b c with
 | false =>
  rw [hg] at h
  simp only [bL.j0,Bool.not_false,if_true] at h
  obtain rfl:=Option.some.inj h
  exact gO _
 | true =>
  rw [hg] at h
  simp only [apG,Bool.and_eq_true,decide_eq_true_eq] at hg
  obtain ⟨n,rfl⟩:=Int.eq_ofNat_of_zero_le (show 0≤W by omega)
  have n1:1≤n:=by omega
  have n8:n≤8:=by omega
  simp only [bL.j0,Bool.not_true,Bool.false_eq_true,if_false,eO,Option.bind_some,uF] at h
  unfold lD at hop
  by_cases h0:o=0
  ·rw [if_pos h0] at h hop
   obtain rfl:=Option.some.inj h
   rw [Int.toNat_natCast] at hop
   have:=of_decide_eq_true hop
   exact wm n n8 _ this.1 this.2
  rw [if_neg h0] at h hop
  rw [if_neg ho.2.2] at hop
  by_cases h2:o=2
  ·rw [if_pos h2] at h
   exact aCD n n1 n8 a v h
  rw [if_neg h2] at h hop
  by_cases h3:3≤o∧o≤12
  ·rw [if_pos (decide_eq_true h3)] at h
   rw [if_pos h3,Bool.and_eq_true] at hop
   have e0:=beq_iff_eq.1 hop.1
   have e1:=beq_iff_eq.1 hop.2
   rw [e0] at ha
   rw [e1] at hb
   exact uV o n n1 n8 a b v ha hb h
  rw [if_neg (by simpa using h3)] at h
  rw [if_neg h3] at hop
  by_cases h13:o=13
  ·rw [if_pos h13] at h
   exact qN _ hW.1 _ h
  rw [if_neg h13] at h
  by_cases h14:o=14
  ·rw [if_pos h14] at h
   exact aBS _ _ _ _ _ hW.1 h
  rw [if_neg h14] at h
  by_cases h15:o=15
  ·rw [if_pos h15] at h
   exact oZ _ _ _ _ _ hW.1 h
  rw [if_neg h15] at h
  rw [if_neg (by omega)] at hop
  by_cases h16:o=16
  ·obtain ⟨rfl,hx0,hx1⟩:=hj h16
   rw [if_pos h16] at hop
   have hs:=beq_iff_eq.1 hop
   obtain ⟨u,rfl⟩:=Int.eq_ofNat_of_zero_le (show 0≤w by omega)
   obtain ⟨z,rfl⟩:=Int.eq_ofNat_of_zero_le (show 0≤x1 by omega)
   have hnz:n=u + z:=by unfold wrap64 at hs;omega
   subst hnz
   have hz8:z≤8:=by omega
   rw [if_pos h16,decide_eq_false (show ¬ ((u + z:Nat):Int) < (u:Int) by omega)] at h
   simp only [bL.j1,Bool.false_eq_true,if_false,if_pos h16] at h
   rw [show wrap64 (((u + z:Nat):Int) - (u:Int))=(z:Int) from by unfold wrap64;omega,sW z hz8,if_pos (by omega)] at h
   obtain ⟨x,rfl⟩:=Int.eq_ofNat_of_zero_le ha.1
   obtain ⟨y,rfl⟩:=Int.eq_ofNat_of_zero_le hb.1
   have hxl:x < 2 ^ u:=by have:=ha.2;rw [Int.toNat_natCast] at this;exact_mod_cast this
   have hyl:y < 2 ^ z:=by have:=hb.2;rw [Int.toNat_natCast] at this;exact_mod_cast this
   have hz2:2 ^ z≤256:=Nat.le_trans (Nat.pow_le_pow_right (by decide) hz8) (by decide)
   have hu2:2 ^ u≤256:=Nat.le_trans (Nat.pow_le_pow_right (by decide) (show u≤8 by omega)) (by decide)
   have hm1:x * 2 ^ z + y < 2 ^ (u + z):=by
    rw [Nat.pow_add]
    have:=Nat.mul_le_mul_right (2 ^ z) (show x + 1≤2 ^ u from hxl)
    rw [Nat.add_mul,Nat.one_mul] at this
    omega
   have hm2:x * 2 ^ z≤256 * 256:=Nat.mul_le_mul (by omega) hz2
   rw [pH x z (by omega) (by omega)] at h
   obtain rfl:=Option.some.inj h
   rw [show wrap64 (((x * 2 ^ z:Nat):Int) + (y:Int))=((x * 2 ^ z + y:Nat):Int) from by
    generalize x * 2 ^ z=m at hm2
    unfold wrap64
    omega]
   exact wm _ n8 _ (Int.natCast_nonneg _) (by exact_mod_cast hm1)
  rw [if_neg h16] at h hop
  simp only [bL.j1,Bool.false_eq_true,if_false,if_neg h16,uF] at h
  by_cases h17:o=17
  ·rw [if_pos h17] at h
   exact yA _ n n8 _ _ _ h
  rw [if_neg h17] at h hop
  have h18:o=18:=by omega
  rw [if_pos h18] at h hop
  simp only [Bool.and_eq_true,beq_iff_eq] at hop
  by_cases hx:a=1
  ·rw [beq_iff_eq.2 hx] at h
   simp only [bL.j2,if_true] at h
   obtain rfl:=Option.some.inj h
   rw [← hop.2.1]
   exact hb
  ·rw [beq_eq_false_iff_ne.2 hx] at h
   simp only [bL.j2,Bool.false_eq_true,if_false,if_pos h18] at h
   obtain rfl:=Option.some.inj h
   rw [← hop.2.2]
   exact hc
theorem zP (l:List bN) (hT:fT l=true) (i:Nat) (hi:i < l.length):lN (l.take i) (aC l (i:Int))=true:=by
 unfold fT at hT
 rw [Bool.and_eq_true] at hT
 exact pW l l.length 0 hT.2 i (by omega) (by omega)
theorem nY (l:List bN) (i:Nat) (p:Int) (h0:0≤p) (h1:p < (i:Int)):aC (l.take i) p=aC l p:=by
 obtain ⟨j,rfl⟩:=Int.eq_ofNat_of_zero_le h0
 rw [iG,iG,List.getD_eq_getElem?_getD,List.getD_eq_getElem?_getD,List.getElem?_take_of_lt (by omega)]
theorem yU (l:List bN) (hT:fT l=true) (i:Nat) (hi:i < l.length):1≤(aC l (i:Int)).f1∧(aC l (i:Int)).f1≤8:=by
 have h:=zP l hT i hi
 unfold lN at h
 simp only [Bool.and_eq_true,decide_eq_true_eq] at h
 exact h.1
theorem aDN (l:List bN) (hT:fT l=true) (ws xs:List Int) (hx:xs.length=8) (ms:List Bool) (hp:∀ i:Nat,i < l.length→ms.getD i false=true→∀ p∈np (aC l (i:Int)),ms.getD p.toNat false=true)
  (hq:∀ j:Nat,j < l.length→qu (aC l (j:Int)).f0=false) (hK:∀ j:Nat,j < l.length → -9223372036854775808≤(aC l (j:Int)).f2∧(aC l (j:Int)).f2≤9223372036854775807)
  (hv:∀ j:Nat,j < l.length→ms.getD j false=true→(aC l (j:Int)).f0=1→rd ws (aC l (j:Int)).f2=(aC l (j:Int)).f1) (he:kH ws xs) :
  ∀ i:Nat,i < l.length→ms.getD i false=true→lE (aC l (i:Int)).f1 ((eL l xs l.length).getD i 0):=by
 intro i
 induction i using Nat.strongRecOn with|ind i ih =>
 intro hi hm
 rw [gZ l xs i l.length hi]
 unfold oW
 by_cases h1:(aC l (i:Int)).f0=1
 ·rw [if_pos h1,← hv i hi hm h1]
  have hk:=lC l hT i hi h1
  obtain ⟨K,hK2⟩:=Int.eq_ofNat_of_zero_le hk.1
  rw [hK2] at hk ⊢
  exact he K (by omega)
 ·rw [if_neg h1]
  have hnd:=zP l hT i hi
  unfold lN at hnd
  simp only [Bool.and_eq_true,decide_eq_true_eq] at hnd
  obtain ⟨hW,ho,_,hpo,hop⟩:=hnd
  have hpp:=dV l hT i hi
  have hqi:=hq i hi
  have hq2:(aC l (i:Int)).f0≠19∧(aC l (i:Int)).f0≠20:=by
   unfold qu at hqi
   have:=of_decide_eq_false hqi
   omega
  have part:∀ q:Nat,lE (w3 (l.take i) (np (aC l (i:Int))) q) (v3 (eL l xs i) (np (aC l (i:Int))) q):=fun q=>by
   unfold w3 v3
   by_cases h:q < (np (aC l (i:Int))).length
   ·rw [if_pos h,if_pos h]
    have hmem:rd (np (aC l (i:Int))) (q:Int)∈np (aC l (i:Int)):=by rw [dP,dM _ q _ h];exact List.getElem_mem h
    have h2:=hpp _ hmem
    have h3:=hp i hi hm _ hmem
    rw [nY l i _ h2.1 (by omega)]
    obtain ⟨j,hj⟩:=Int.eq_ofNat_of_zero_le h2.1
    rw [hj] at h2 h3 ⊢
    rw [dP,← kA l xs j l.length i (by omega) (by omega)]
    exact ih j (by omega) (by omega) (by simpa using h3)
   ·rw [if_neg h,if_neg h]
    exact gO _
  refine aCE _ _ _ _ _ _ _ _ _ _ _ _ _ (hK i hi) hW ⟨ho.1,by omega,h1⟩ hop (fun h16=>?_) (part 0) (part 1) (part 2)
  have hnp:np (aC l (i:Int))=[(aC l (i:Int)).f3,(aC l (i:Int)).f4]:=by
   unfold np parts
   rw [if_neg (by rw [hqi,h16];decide),if_pos (by omega)]
  rw [hnp] at hpp ⊢
  have p0:=hpp (aC l (i:Int)).f3 (by simp)
  have p1:=hpp (aC l (i:Int)).f4 (by simp)
  have e0:w3 (l.take i) [(aC l (i:Int)).f3,(aC l (i:Int)).f4] 0=(aC l (aC l (i:Int)).f3).f1:=by
   simp [w3,rd]
   rw [nY l i _ p0.1 (by omega)]
  have e1:w3 (l.take i) [(aC l (i:Int)).f3,(aC l (i:Int)).f4] 1=(aC l (aC l (i:Int)).f4).f1:=by
   simp [w3,rd]
   rw [nY l i _ p1.1 (by omega)]
  rw [e0,e1]
  refine ⟨by simp [qL,rd],?_,?_⟩
  ·obtain ⟨j,hj⟩:=Int.eq_ofNat_of_zero_le p0.1
   rw [hj] at p0 ⊢
   exact yU l hT j (by omega)
  ·obtain ⟨j,hj⟩:=Int.eq_ofNat_of_zero_le p1.1
   rw [hj] at p1 ⊢
   exact yU l hT j (by omega)
structure lQ (q:List eE) (l:List bN) (ws:List Int):Prop where
 vars:∀ j:Nat,j < q.length→(0≤(aI q (j:Int)).f1∧(aI q (j:Int)).f1≤7)∧(1≤(aI q (j:Int)).f2∧(aI q (j:Int)).f2≤8)∧rd ws (aI q (j:Int)).f1=(aI q (j:Int)).f2
 fw:oD q q.length 0 (List.replicate 8 0)=some ws
 term:fT l=true
 root:(aC l ((l.length:Int) - 1)).f1=1
 fits:rO l (mA l l.length (lU l.length)) ws l.length 0=true
theorem xF {q:List eE} {l:List bN} (h:rR q l=true):∃ ws,lQ q l ws:=by
 unfold rR at h
 cases hw:oD q q.length 0 (List.replicate 8 0) with
 | none =>
  rw [hw] at h
  cases h
 | some ws =>
  rw [hw] at h
  simp only [Bool.and_eq_true,beq_iff_eq] at h
  exact ⟨ws,fun j hj=>vF q q.length 0 _ ws rfl hw j (by omega) (by omega),hw,h.1,h.2.1,h.2.2⟩
theorem lQ.plain {q:List eE} {l:List bN} {ws:List Int} (h:lQ q l ws):∀ j:Nat,j < l.length→qu (aC l (j:Int)).f0=false:=fun j hj=>uU l _ ws l.length 0 h.fits j (by omega) (by omega)
theorem qX (n:Nat) (h:1≤n):(lU n).getD (n - 1) false=true:=by
 unfold lU
 rw [List.getD_eq_getElem?_getD,List.getElem?_set,if_pos rfl,if_pos (by rw [List.length_replicate];omega)]
 rfl
theorem lQ.bit {q:List eE} {l:List bN} {ws:List Int} (h:lQ q l ws) (hK:∀ j:Nat,j < l.length → -9223372036854775808≤(aC l (j:Int)).f2∧(aC l (j:Int)).f2≤9223372036854775807) (xs:List Int) (hx:xs.length=8) (he:kH ws xs) :
  rd (eL l xs l.length) ((l.length:Int) - 1)=0∨rd (eL l xs l.length) ((l.length:Int) - 1)=1:=by
 have hp:=fH h.term
 have hl:(lU l.length).length=l.length:=fF _
 have e:((l.length:Int) - 1)=((l.length - 1:Nat):Int):=by omega
 have hv:=aDN l h.term ws xs hx (mA l l.length (lU l.length)) (fun i hi hm=>oT l h.term l.length _ i hi (Nat.le_refl _) hl hm) h.plain hK
  (fun j hj hm ho=>wS l _ ws l.length 0 h.fits j (by omega) (by omega) hm ho) he (l.length - 1) (by omega) (lK l l.length _ _ (qX _ hp))
 have hr:=h.root
 rw [e] at hr ⊢
 rw [hr] at hv
 rw [dP]
 unfold lE at hv
 have h2:(2:Int) ^ (1:Int).toNat=2:=by decide
 rw [h2] at hv
 omega
theorem lQ.rootBit {q:List eE} {l:List bN} {ws:List Int} (h:lQ q l ws) (hK:∀ j:Nat,j < l.length → -9223372036854775808≤(aC l (j:Int)).f2∧(aC l (j:Int)).f2≤9223372036854775807) (n t:Nat):jI q l n t=0∨jI q l n t=1 :=
 h.bit hK _ (gX q n (t + 1)) (aAS q ws n h.vars (t + 1))
theorem aDX (q:List eE) (l:List bN) (n:Nat) (hn12:n≤12) (hq:q.length≤1048576) (hw:∀ j:Nat,j < q.length→1≤(aI q (j:Int)).f2∧(aI q (j:Int)).f2≤8) (hv:∀ j:Nat,j < q.length→0≤(aI q (j:Int)).f1∧(aI q (j:Int)).f1≤7) (hs:kX q q.length 0=(n:Int))
  (hT:fT l=true) (hn:l.length≤1048576) (hp:∀ j:Nat,j < l.length→qu (aC l (j:Int)).f0=false) (hK:∀ j:Nat,j < l.length → -9223372036854775808≤(aC l (j:Int)).f2∧(aC l (j:Int)).f2≤9223372036854775807) (hb:∀ t,t < 2 ^ n→jI q l n t=0∨jI q l n t=1) :
  Ev (fun k=>bJ.l0 k q l (n:Int) [] (List.replicate 8 0) 0) ((n:Int),strOfNums (oJ q l n),true):=by
 have hpos:=fH hT
 have hN:2 ^ n≤4096:=Nat.le_trans (Nat.pow_le_pow_right (by decide) hn12) (by decide)
 have hsl:=nC q l n
 have hwl:wrap64 ((l.length:Int) - 1)=(l.length:Int) - 1:=by unfold wrap64;omega
 have hpw:Ev (fun k=>aH.f k (n:Int)) ((2 ^ n:Nat):Int):=lH n (fun k hk=>by rw [kO n (by omega) k hk];norm_cast)
 have main:∀ j:Nat,j≤2 ^ n→Ev (fun k=>bJ.l0 k q l (n:Int) ((oJ q l n).take j) (qH q n j) (j:Int)) ((n:Int),strOfNums (oJ q l n),true):=by
  refine jV (fun k j=>bJ.l0 k q l (n:Int) ((oJ q l n).take j) (qH q n j) (j:Int)) (2 ^ n) _ (fun j hj h=>?_) ?_
  ·refine bB ?_
   simp only [bJ.l0]
   refine bI hpw ?_
   simp only [if_pos (show (j:Int) < ((2 ^ n:Nat):Int) by omega)]
   refine aCX q l (n:Int) _ _ hq hw hv j (by omega) q.length 0 (by omega) n (qH q n j) hn12 (by omega) (gX q n j) ?_
   rw [hwl]
   refine bI (atS l hT hn (qH q n (j + 1)) (gX q n (j + 1)) hp hK) ?_
   have hlen:((oJ q l n).take j).length < 140737488355328:=by rw [List.length_take];omega
   simp only [if_pos hlen,eH j (show j < 4611686018427387904 by omega)]
   have ht:(oJ q l n).take j ++ [(wrap64 (48 + jI q l n j)) % 256]=(oJ q l n).take (j + 1):=by
    rw [List.take_succ_eq_append_getElem (by rw [hsl];exact hj)]
    congr 2
    simp only [oJ,List.getElem_map,List.getElem_range]
    rcases hb j hj with h|h <;> rw [h] <;> unfold wrap64 <;> decide
   unfold jI at ht
   rw [ht]
   exact h
  ·refine bB ?_
   simp only [bJ.l0]
   refine bI hpw ?_
   simp only [if_neg (show ¬ ((2 ^ n:Nat):Int) < ((2 ^ n:Nat):Int) by omega)]
   rw [List.take_of_length_le (by omega)]
   exact bA _
 exact main 0 (by omega)
noncomputable def uI (q:List eE) (l:List bN):Int × ByteArray × Bool:=if rR q l=true∧kX q q.length 0≤12 then (kX q q.length 0,strOfNums (oJ q l (kX q q.length 0).toNat),true) else (0,⟨#[]⟩,false)
theorem sB {q:List eE} {l:List bN} {ws:List Int} (h:lQ q l ws):∀ j:Nat,j < q.length→1≤(aI q (j:Int)).f2∧(aI q (j:Int)).f2≤8:=fun j hj=>(h.vars j hj).2.1
theorem aAD {q:List eE} {l:List bN} {ws:List Int} (h:lQ q l ws):0≤kX q q.length 0:=pX q (sB h) q.length 0 (by omega)
theorem mW (q:List eE) (hq:q.length≤1048576) (hw:∀ j:Nat,j < q.length→1≤(aI q (j:Int)).f2∧(aI q (j:Int)).f2≤8):Ev (fun k=>dH.f k q) (kX q q.length 0):=by
 have main:∀ d i,i + d=q.length→∀ s:Int,0≤s→s≤8 * (i:Int)→Ev (fun k=>dH.l0 k q s (i:Int)) (s + kX q d i):=by
  intro d
  induction d with
  | zero =>
   intro i hi s h0 h1
   refine bB ?_
   simp only [dH.l0,if_neg (show ¬ (i:Int) < (q.length:Int) by omega),kX,Int.add_zero]
   exact bA _
  | succ d ih =>
   intro i hi s h0 h1
   have hwi:=hw i (by omega)
   have e:=ih (i + 1) (by omega) (s + (aI q (i:Int)).f2) (by omega) (by push_cast;omega)
   refine bB ?_
   simp only [dH.l0,if_pos (show (i:Int) < (q.length:Int) by omega),if_pos (show 0≤(i:Int) by omega),oF,decide_eq_true hwi,Option.bind_some,if_true,eH i (show i < 4611686018427387904 by omega),
    iB (show -9223372036854775808≤s + (aI q (i:Int)).f2 by omega) (show s + (aI q (i:Int)).f2≤9223372036854775807 by omega),kX]
   rw [← Int.add_assoc]
   exact e
 have:=main q.length 0 (by omega) 0 (by omega) (by omega)
 rw [Int.zero_add] at this
 exact this
theorem aAU (q:List eE) (l:List bN) (hq:q.length≤1048576) (hl:l.length≤1048576) (hK:∀ j:Nat,j < l.length → -9223372036854775808≤(aC l (j:Int)).f2∧(aC l (j:Int)).f2≤9223372036854775807):Ev (fun k=>bJ.f k q l) (uI q l):=by
 obtain ⟨v,v0,e1,_,hv⟩:=tG q hq
 have stop:Ev (fun k=>bJ.j0 k q l v true) (0,(⟨#[]⟩:ByteArray),false):=bB (by simp only [bJ.j0,if_true];exact bA _)
 unfold bJ.f
 refine bI (f:=fun k t102=>(bW.f k q l).bind fun t103=>(if t103=true then (bJ.j0 k q l t102 (decide (t102 > 12))) else (bJ.j0 k q l t102 true))) e1 ?_
 refine bI (f:=fun k t103=>if t103=true then (bJ.j0 k q l v (decide (v > 12))) else (bJ.j0 k q l v true)) (aAC q l hq hl) ?_
 unfold uI
 cases hf:rR q l with
 | false =>
  simp only [Bool.false_eq_true,if_false,false_and]
  exact stop
 | true =>
  obtain ⟨ws,ok⟩:=xF hf
  have hsum:=nT e1 (mW q hq (sB ok))
  simp only [if_true,true_and]
  rw [← hsum]
  by_cases h12:v > 12
  ·rw [decide_eq_true h12,if_neg (by omega)]
   exact stop
  ·rw [decide_eq_false h12,if_pos (by omega)]
   obtain ⟨n,rfl⟩:=Int.eq_ofNat_of_zero_le v0
   rw [Int.toNat_natCast]
   refine bB ?_
   simp only [bJ.j0,Bool.false_eq_true,if_false]
   refine bI (f:=fun k t107=>bJ.l0 k q l (n:Int) (([]:List Int)) t107 0) rG ?_
   exact aDX q l n (by omega) hq (sB ok) (fun j hj=>(ok.vars j hj).1) hsum.symm ok.term hl ok.plain hK (fun t _=>ok.rootBit hK n t)
theorem aBR (q:List eE) (l:List bN) (hq:q.length≤1048576) (hl:l.length≤1048576) (hK:∀ j:Nat,j < l.length → -9223372036854775808≤(aC l (j:Int)).f2∧(aC l (j:Int)).f2≤9223372036854775807):Ev (fun k=>fC.f k q l) (uI q l):=by
 obtain ⟨v,v0,e1,e2,hv⟩:=tG q hq
 unfold fC.f
 refine bI (f:=fun k n=>if n < 0 then some (0,(⟨#[]⟩:ByteArray),false) else (fA.f k q l).bind fun t=>if t=true then (if 0 < l.length∧l.length≤35184372088832 then (if 0≤IntKind.u64.wrap n then (if 0≤(wrap64 (2 ^ min (IntKind.u64.wrap n).toNat 64))∧(wrap64 (2 ^ min (IntKind.u64.wrap n).toNat 64)).toNat≤281474976710656 then (uP q l n k 0 (List.replicate (wrap64 (2 ^ min (IntKind.u64.wrap n).toNat 64)).toNat 0) (List.replicate 8 0)).bind fun vals=>some (n,strOfNums vals,true) else none) else none) else none) else some (0,(⟨#[]⟩:ByteArray),false)) e2 ?_
 unfold uI
 by_cases h12:v > 12
 ·simp only [if_pos h12,if_pos (show (-1:Int) < 0 by decide)]
  rw [if_neg]
  ·exact bA _
  ·rintro ⟨hf,h⟩
   obtain ⟨ws,ok⟩:=xF hf
   have hsum:=nT e1 (mW q hq (sB ok))
   omega
 ·simp only [if_neg h12,if_neg (show ¬ v < 0 by omega)]
  refine bI (f:=fun k t=>if t=true then (if 0 < l.length∧l.length≤35184372088832 then (if 0≤IntKind.u64.wrap v then (if 0≤(wrap64 (2 ^ min (IntKind.u64.wrap v).toNat 64))∧(wrap64 (2 ^ min (IntKind.u64.wrap v).toNat 64)).toNat≤281474976710656 then (uP q l v k 0 (List.replicate (wrap64 (2 ^ min (IntKind.u64.wrap v).toNat 64)).toNat 0) (List.replicate 8 0)).bind fun vals=>some (v,strOfNums vals,true) else none) else none) else none) else some (0,(⟨#[]⟩:ByteArray),false)) (aAG q l hq hl) ?_
  cases hf:rR q l with
  | false =>
   simp only [Bool.false_eq_true,if_false,false_and]
   exact bA _
  | true =>
   obtain ⟨ws,ok⟩:=xF hf
   have hsum:=nT e1 (mW q hq (sB ok))
   have hpos:=fH ok.term
   obtain ⟨n,rfl⟩:=Int.eq_ofNat_of_zero_le v0
   have hn12:n≤12:=by omega
   have hN:2 ^ n≤4096:=Nat.le_trans (Nat.pow_le_pow_right (by decide) hn12) (by decide)
   have hwp:wrap64 (2 ^ min n 64)=((2 ^ n:Nat):Int):=by
    rw [Nat.min_eq_left (by omega),show (2:Int) ^ n=((2 ^ n:Nat):Int) from by norm_cast]
    generalize 2 ^ n=z at hN
    unfold wrap64
    omega
   simp only [if_true,true_and]
   rw [← hsum,if_pos (show (n:Int)≤12 by omega),Int.toNat_natCast,pI (by omega) (by omega),Int.toNat_natCast,hwp]
   simp only [if_pos (show 0 < l.length∧l.length≤35184372088832 by omega),if_pos (show (0:Int)≤(n:Int) by omega),Int.toNat_natCast,if_pos (show (0:Int)≤((2 ^ n:Nat):Int)∧2 ^ n≤281474976710656 from ⟨Int.natCast_nonneg _,Nat.le_trans hN (by decide)⟩)]
   refine bI (f:=fun k vals=>some ((n:Int),strOfNums vals,true)) (aAR q l n hn12 hq (sB ok) (fun j hj=>(ok.vars j hj).1) hsum.symm ok.term hl ok.plain hK (fun t _=>ok.rootBit hK n t)) ?_
   exact bA _
theorem aCS (q:List eE) (hr:∀ j:Nat,j < q.length→(0≤(aI q (j:Int)).f1∧(aI q (j:Int)).f1≤7)∧(1≤(aI q (j:Int)).f2∧(aI q (j:Int)).f2≤8)) (hd:∀ a b:Nat,a < b→b < q.length→(aI q (a:Int)).f1≠(aI q (b:Int)).f1) :
  ∀ d i,i + d=q.length→∀ ws:List Int,ws.length=8→(∀ j:Nat,i≤j→j < q.length→rd ws (aI q (j:Int)).f1=0)→∃ ws',oD q d i ws=some ws'∧∀ K:Int,0≤K→(∀ j:Nat,i≤j→j < q.length→(aI q (j:Int)).f1≠K)→rd ws' K=rd ws K:=by
 intro d
 induction d with
 | zero=>intro i _ ws _ _;exact ⟨ws,rfl,fun _ _ _=>rfl⟩
 | succ d ih =>
  intro i hi ws hw h0
  have hri:=hr i (by omega)
  obtain ⟨ws',e,h⟩:=ih (i + 1) (by omega) (ws.set (aI q (i:Int)).f1.toNat (aI q (i:Int)).f2) (by rw [List.length_set];exact hw) (fun j h1 h2=>by
   rw [lT _ _ _ _ hri.1.1 (hr j h2).1.1 (by omega),if_neg (fun e=>hd i j (by omega) h2 e.symm)]
   exact h0 j (by omega) h2)
  refine ⟨ws',?_,fun K hK hn=>?_⟩
  ·unfold oD
   rw [if_pos ⟨hri.1,hri.2,h0 i (Nat.le_refl _) (by omega)⟩]
   exact e
  ·rw [h K hK (fun j h1 h2=>hn j (by omega) h2),lT _ _ _ _ hri.1.1 hK (by omega),if_neg (fun e=>hn i (Nat.le_refl _) (by omega) e.symm)]
theorem aAP (l:List bN) (ms:List Bool) (ws:List Int) (h:∀ j:Nat,j < l.length→qu (aC l (j:Int)).f0=false∧(cW false ms (j:Int)=true→(aC l (j:Int)).f0=1→rd ws (aC l (j:Int)).f2=(aC l (j:Int)).f1)):∀ d i,i + d=l.length→rO l ms ws d i=true:=by
 intro d
 induction d with
 | zero=>intro i _;rfl
 | succ d ih =>
  intro i hi
  have hj:=h i (by omega)
  simp only [rO,hj.1,ih (i + 1) (by omega),Bool.not_false,Bool.true_and,Bool.and_true]
  by_cases c:cW false ms (i:Int)=true
  ·rw [if_pos c]
   by_cases c1:(aC l (i:Int)).f0=1
   ·rw [if_pos c1]
    exact beq_iff_eq.2 (hj.2 c c1)
   ·rw [if_neg c1]
  ·rw [if_neg c]
theorem aBV {q:List eE} {l:List bN} {ws:List Int} (h:lQ q l ws):rR q l=true:=by
 unfold rR
 rw [h.fw]
 simp only [h.term,h.fits,beq_iff_eq.2 h.root,Bool.and_self]
theorem wP (q:List eE):∀ d i,i + d=q.length→kX q d i=((q.drop i).map fun x=>x.f2).sum:=by
 intro d
 induction d with
 | zero=>intro i hi;rw [List.drop_of_length_le (by omega)];rfl
 | succ d ih =>
  intro i hi
  rw [List.drop_eq_getElem_cons (show i < q.length by omega),List.map_cons,List.sum_cons,← ih (i + 1) (by omega)]
  simp only [kX]
  rw [lL,dM q i _ (by omega)]
theorem vX (l:List bN):qB l=sm (fun j=>nB (aC l (j:Int))) l.length:=by
 have main:∀ i,i≤l.length→((l.take i).map nB).sum=sm (fun j=>nB (aC l (j:Int))) i:=by
  intro i
  induction i with
  | zero=>intro _;rfl
  | succ i ih =>
   intro hi
   rw [List.take_succ_eq_append_getElem (by omega),List.map_append,List.sum_append,ih (by omega)]
   simp only [sm,List.map_cons,List.map_nil,List.sum_cons,List.sum_nil,Nat.add_zero]
   rw [iG,dM l i _ (by omega)]
 have:=main l.length (Nat.le_refl _)
 rw [List.take_length] at this
 exact this
def sY (l:List bN):Nat→Nat→Nat
 | 0,p=>p
 | d + 1,p=>if qu (aC l (p:Int)).f0=true then sY l d (aC l (p:Int)).f3.toNat else p
theorem rJ (l:List bN) (hT:fT l=true):∀ d p,p < d→p < l.length→Ev (fun k=>cJ.l0 k l (p:Int)) ((sY l d p:Nat):Int)∧sY l d p≤p∧qu (aC l ((sY l d p:Nat):Int)).f0=false∧(aC l ((sY l d p:Nat):Int)).f1=(aC l (p:Int)).f1∧(cW false (gR l) (p:Int)=true→cW false (gR l) ((sY l d p:Nat):Int)=true):=by
 intro d
 induction d with
 | zero=>intro p h;omega
 | succ d ih =>
  intro p hd hp
  cases hq:qu (aC l (p:Int)).f0 with
  | false =>
   have hbl:sY l (d + 1) p=p:=by simp only [sY,hq,Bool.false_eq_true,if_false]
   rw [hbl]
   refine ⟨bB ?_,Nat.le_refl _,hq,rfl,fun h=>h⟩
   simp only [cJ.l0,if_pos (show 0≤(p:Int) by omega),if_pos (show (p:Int) < (l.length:Int) by omega),zQ,Option.bind_some,hq,Bool.false_eq_true,if_false]
   exact bA _
  | true =>
   have hbl:sY l (d + 1) p=sY l d (aC l (p:Int)).f3.toNat:=by simp only [sY,hq,if_true]
   rw [hbl]
   have hqu:=kC l hT p hp hq
   have hmem:(aC l (p:Int)).f3∈np (aC l (p:Int)):=by rw [hqu.2.2.1];exact List.mem_singleton.2 rfl
   have hb:=dV l hT p hp _ hmem
   obtain ⟨x,hx⟩:=Int.eq_ofNat_of_zero_le hb.1
   have hw:=hqu.2.2.2
   rw [hx] at hb hmem hw ⊢
   rw [Int.toNat_natCast]
   obtain ⟨e,h1,h2,h3,h4⟩:=ih x (by omega) (by omega)
   refine ⟨bB ?_,by omega,h2,by rw [h3,hw.1,hw.2],fun h=>h4 (jM l hT p hp h _ hmem)⟩
   simp only [cJ.l0,if_pos (show 0≤(p:Int) by omega),if_pos (show (p:Int) < (l.length:Int) by omega),zQ,Option.bind_some,hq,if_true,hx]
   exact e
abbrev tR (l:List bN) (x:Int):Int:=((sY l l.length x.toNat:Nat):Int)
theorem vZ (l:List bN) (hT:fT l=true) (x:Int) (h0:0≤x) (h1:x < (l.length:Int)):Ev (fun k=>cJ.f k l x) (tR l x):=by
 obtain ⟨p,rfl⟩:=Int.eq_ofNat_of_zero_le h0
 exact (rJ l hT l.length p (by omega) (by omega)).1
def oU (l:List bN) (i:Nat):List bN:=(List.range i).map fun j:Nat=>mv (tR l) (aC l (j:Int))
theorem fE (l:List bN) (i:Nat):(oU l i).length=i:=by simp [oU]
theorem wN (l:List bN) (i:Nat):oU l (i + 1)=oU l i ++ [mv (tR l) (aC l (i:Int))]:=by simp [oU,List.range_succ]
theorem rH (l:List bN) (i m:Nat) (h:m≤i):(oU l i).take m=oU l m:=by
 unfold oU
 rw [← List.map_take,List.take_range,Nat.min_eq_left h]
theorem mZ (l:List bN) (i j:Nat) (h:j < i):aC (oU l i) (j:Int)=mv (tR l) (aC l (j:Int)):=by
 rw [iG,dM _ j _ (by rw [fE];exact h)]
 simp [oU]
theorem vM (l:List bN) (hT:fT l=true) (m:Nat) (h1:1≤m) (h2:m≤l.length):fT (oU l m)=true:=by
 have hl8:=gU hT
 refine vB (by rw [fE];exact h1) (by rw [fE];omega) (fun j hj=>?_)
 rw [fE] at hj
 rw [rH l m j (by omega),mZ l m j hj]
 refine tK (l.take j) (oU l j) _ _ (tA l hT j (by omega)) (fun p hp=>?_)
 have hb:=dV l hT j (by omega) p hp
 obtain ⟨x,rfl⟩:=Int.eq_ofNat_of_zero_le hb.1
 obtain ⟨_,g1,_,g3,_⟩:=rJ l hT l.length x (by omega) (by omega)
 rw [pY l j x (by omega),fE]
 simp only [tR,Int.toNat_natCast]
 rw [mZ l j _ (by omega)]
 exact ⟨by omega,g3⟩
theorem qZ (l:List bN) (q:List eE) (acc:List bN) (ha:acc.length < 2932031007402) (i:Nat) (hi:i < 4611686018427387904) (ps:List Int) (a0 a1 a2 a3 a4 a5 b4 b5:Int) (R:List eE × List bN × Bool)
  (h4:1 < ps.length→Ev (fun k=>cJ.f k l a4) b4) (h5:2 < ps.length→Ev (fun k=>cJ.f k l a5) b5) (e:Ev (fun k=>cK.l0 k l q (acc ++ [⟨a0,a1,a2,a3,if 1 < ps.length then b4 else a4,if 2 < ps.length then b5 else a5⟩]) ((i + 1:Nat):Int)) R) :
  Ev (fun k=>cK.j1 k l q acc (i:Int) ps a0 a1 a2 a3 a4 a5) R:=by
 refine bB ?_
 by_cases c1:1 < ps.length
 ·rw [if_pos c1] at e
  by_cases c2:2 < ps.length
  ·rw [if_pos c2] at e
   simp only [cK.j1,if_pos (show (ps.length:Int) > 1 by omega),if_pos (show (ps.length:Int) > 2 by omega),if_pos ha,eH i hi]
   exact bI (h4 c1) (bI (h5 c2) e)
  ·rw [if_neg c2] at e
   simp only [cK.j1,if_pos (show (ps.length:Int) > 1 by omega),if_neg (show ¬ (ps.length:Int) > 2 by omega),if_pos ha,eH i hi]
   exact bI (h4 c1) e
 ·rw [if_neg c1,if_neg (show ¬ 2 < ps.length by omega)] at e
  simp only [cK.j1,if_neg (show ¬ (ps.length:Int) > 1 by omega),if_neg (show ¬ (ps.length:Int) > 2 by omega),if_pos ha,eH i hi]
  exact e
theorem sF (l:List bN) (hT:fT l=true) (q:List eE) (R:List eE × List bN × Bool) (hE:Ev (fun k=>cK.l0 k l q (oU l l.length) (l.length:Int)) R):∀ d i,i + d=l.length→Ev (fun k=>cK.l0 k l q (oU l i) (i:Int)) R:=by
 have hl8:=gU hT
 intro d
 induction d with
 | zero =>
  intro i hi
  obtain rfl:i=l.length:=by omega
  exact hE
 | succ d ih =>
  intro i hi
  have e:=ih (i + 1) (by omega)
  rw [wN] at e
  have hpp:=dV l hT i (by omega)
  have hmem:=vW (aC l (i:Int))
  have ev:∀ x∈np (aC l (i:Int)),Ev (fun k=>cJ.f k l x) (tR l x):=fun x hx=>by
   have:=hpp x hx
   exact vZ l hT x (by omega) (by omega)
  refine bB ?_
  simp only [cK.l0,if_pos (show (i:Int) < (l.length:Int) by omega),if_pos (show 0≤(i:Int) by omega)]
  refine bI (oP (aC l (i:Int))) ?_
  by_cases c0:0 < (np (aC l (i:Int))).length
  ·simp only [if_pos (show ((np (aC l (i:Int))).length:Int) > 0 by omega)]
   refine bI (ev _ (hmem.1 c0)) ?_
   refine qZ l q (oU l i) (by rw [fE];omega) i (by omega) _ _ _ _ _ _ _ _ _ R (fun h=>ev _ (hmem.2.1 h)) (fun h=>ev _ (hmem.2.2 h)) ?_
   unfold mv at e
   rw [if_pos c0] at e
   exact e
  ·simp only [if_neg (show ¬ ((np (aC l (i:Int))).length:Int) > 0 by omega)]
   refine qZ l q (oU l i) (by rw [fE];omega) i (by omega) _ _ _ _ _ _ _ (tR l (aC l (i:Int)).f4) (tR l (aC l (i:Int)).f5) R (fun h=>by omega) (fun h=>by omega) ?_
   unfold mv at e
   rw [if_neg c0] at e
   exact e
theorem aAH (l:List bN) (hT:fT l=true) (m:Nat) (hm:(m:Int)=tR l ((l.length:Int) - 1)) (h2:m < l.length):∀ d p,m≤p + d→p < m + 1→cW false (gR (oU l (m + 1))) (p:Int)=true→cW false (gR l) (p:Int)=true∧qu (aC l (p:Int)).f0=false:=by
 have hp:=fH hT
 have hT2:=vM l hT (m + 1) (by omega) (by omega)
 have root:cW false (gR l) (m:Int)=true∧qu (aC l (m:Int)).f0=false:=by
  obtain ⟨_,_,g2,_,g4⟩:=rJ l hT l.length (l.length - 1) (by omega) (by omega)
  have e:((m:Nat):Int)=((sY l l.length (l.length - 1):Nat):Int):=by
   rw [hm]
   unfold tR
   rw [show ((l.length:Int) - 1).toNat=l.length - 1 from by omega]
  rw [e]
  exact ⟨g4 (iH l hp),g2⟩
 intro d
 induction d with
 | zero =>
  intro p h1 h3 _
  obtain rfl:p=m:=by omega
  exact root
 | succ d ih =>
  intro p h1 h3 hmk
  by_cases e:p=m
  ·subst e
   exact root
  ·obtain ⟨j,hj1,hj2,hjm,hjp⟩:=tM (oU l (m + 1)) hT2 p hmk (by rw [fE];omega)
   rw [fE] at hj2
   have hj:=ih j (by omega) hj2 hjm
   rw [mZ l (m + 1) j hj2,rC] at hjp
   obtain ⟨x,hx,ex⟩:=List.mem_map.1 hjp
   have hb:=dV l hT j (by omega) x hx
   have hmx:=jM l hT j (by omega) hj.1 x hx
   obtain ⟨y,rfl⟩:=Int.eq_ofNat_of_zero_le hb.1
   obtain ⟨_,_,g2,_,g4⟩:=rJ l hT l.length y (by omega) (by omega)
   unfold tR at ex
   rw [Int.toNat_natCast] at ex
   rw [← ex]
   exact ⟨g4 hmx,g2⟩
theorem aCU {l:List bN} {q:List eE} (Q:pD l q) (j:Nat) (hj:j < q.length):∃ i,i∈qs l (kN l)∧(aI q (j:Int)).f1=(aC l (i:Int)).f2∧(aI q (j:Int)).f2=(aC l (i:Int)).f4:=by
 rw [lL,dM q j _ hj]
 have h:(q[j].f1,q[j].f2)∈q.map (fun x=>(x.f1,x.f2)):=List.mem_map.2 ⟨q[j],List.getElem_mem hj,rfl⟩
 rw [Q.map] at h
 obtain ⟨i,hi,e⟩:=List.mem_map.1 h
 have:=Prod.mk.inj e
 exact ⟨i,hi,this.1.symm,this.2.symm⟩
theorem aEB {l:List bN} {q:List eE} (Q:pD l q) (i:Nat) (hi:i∈qs l (kN l)):∃ j:Nat,j < q.length∧(aI q (j:Int)).f1=(aC l (i:Int)).f2∧(aI q (j:Int)).f2=(aC l (i:Int)).f4:=by
 have h:qp l i∈(qs l (kN l)).map (qp l):=List.mem_map.2 ⟨i,hi,rfl⟩
 rw [← Q.map] at h
 obtain ⟨x,hx,e⟩:=List.mem_map.1 h
 obtain ⟨j,hj,rfl⟩:=List.getElem_of_mem hx
 have:=Prod.mk.inj e
 refine ⟨j,hj,?_⟩
 rw [lL,dM q j _ hj]
 exact this
theorem zM {l:List bN} (S:lO l) {q:List eE} (Q:pD l q):(q.map fun x=>x.f1).Nodup:=by
 obtain ⟨ws,_,I,_⟩:=S.ws
 show (q.map fun x=>x.f1).Pairwise (· ≠ ·)
 have e:(q.map fun x=>x.f1)=(qs l (kN l)).map fun j:Nat=>(aC l (j:Int)).f2:=by
  have:=congrArg (List.map Prod.fst) Q.map
  rw [List.map_map,List.map_map] at this
  exact this
 rw [e,List.pairwise_map]
 refine List.Pairwise.imp_of_mem (fun {a b} ha hb hab e2=>?_) Q.nd
 have ha2:=(Q.mem a).1 ha
 have hb2:=(Q.mem b).1 hb
 exact hab (I.one a b ha2.1 hb2.1 ha2.2 hb2.2 e2)
theorem xJ {l:List bN} (S:lO l) {q:List eE} (Q:pD l q):∀ a b:Nat,a < b→b < q.length→(aI q (a:Int)).f1≠(aI q (b:Int)).f1:=by
 have h:(q.map fun x=>x.f1).Pairwise (· ≠ ·):=zM S Q
 intro a b hab hb
 have:=List.pairwise_iff_getElem.1 h a b (by rw [List.length_map];omega) (by rw [List.length_map];exact hb) hab
 rw [lL,lL,dM q a _ (by omega),dM q b _ hb]
 simpa using this
theorem yN {l:List bN} (S:lO l) {q:List eE} (Q:pD l q):kX q q.length 0≤((qB l:Nat):Int):=by
 have hT:=S.tm
 rw [wP q q.length 0 (by omega),List.drop_zero]
 have e:(q.map fun x=>x.f2)=(qs l (kN l)).map fun j:Nat=>(aC l (j:Int)).f4:=by
  have:=congrArg (List.map Prod.snd) Q.map
  rw [List.map_map,List.map_map] at this
  exact this
 rw [e]
 have h1:∀ V:List Nat,(∀ j∈V,j < l.length∧qu (aC l (j:Int)).f0=true)→(V.map fun j:Nat=>(aC l (j:Int)).f4).sum=(((V.map fun j:Nat=>nB (aC l (j:Int))).sum:Nat):Int):=by
  intro V
  induction V with
  | nil=>intro _;rfl
  | cons a V ih =>
   intro h
   have ha:=h a (List.mem_cons_self ..)
   have hq:=kC l hT a ha.1 ha.2
   have hn:((nB (aC l (a:Int)):Nat):Int)=(aC l (a:Int)).f4:=by
    unfold nB
    rw [if_pos ((iZ _).1 ha.2)]
    omega
   rw [List.map_cons,List.sum_cons,List.map_cons,List.sum_cons,ih (fun j hj=>h j (List.mem_cons_of_mem _ hj)),Int.natCast_add,hn]
 rw [h1 _ (fun j hj=>⟨((Q.mem j).1 hj).1,((Q.mem j).1 hj).2.2⟩),jD (fun j:Nat=>nB (aC l (j:Int))) l.length _ (fun j hj=>((Q.mem j).1 hj).1),vX]
 have:=tT (f:=fun j=>(qs l (kN l)).count j * nB (aC l (j:Int))) (g:=fun j:Nat=>nB (aC l (j:Int))) l.length (fun j _=>by
  have h:=Nat.mul_le_mul_right (nB (aC l (j:Int))) (List.nodup_iff_count.1 Q.nd j)
  rw [Nat.one_mul] at h
  exact h)
 omega
theorem sC (l:List bN) (h:Ev (fun k=>cN.f k l) true) (S:lO l):∃ q r ws,Ev (fun k=>cK.f k l) (q,r,true)∧lQ q r ws∧kX q q.length 0≤((qB l:Nat):Int)∧q.length≤80∧r.length≤80∧(q.map fun x=>x.f1).Nodup∧pD l q∧Ev (fun k=>dL.f k l (iD l) ((l.length:Int) - 1) false) q∧∃ m:Nat,(m:Int)=tR l ((l.length:Int) - 1)∧m < l.length∧Ev (fun k=>eP.f k (oU l (m + 1))) r:=by
 have hT:=S.tm
 have hl8:=gU hT
 have hp:=fH hT
 obtain ⟨q,eq,Q⟩:=aDU S
 have hw:wrap64 ((l.length:Int) - 1)=(l.length:Int) - 1:=iB (by omega) (by omega)
 have hql:q.length≤80:=by
  have h1:=congrArg List.length Q.map
  rw [List.length_map,List.length_map] at h1
  have h2:(qs l (kN l)).length≤(kN l).length:=List.length_filter_le _ _
  have h3:(kN l).length≤l.length:=qF l hT l.length (l.length - 1) (by omega) (by omega) (iH l hp) (nQ S)
  omega
 have hr:∀ j:Nat,j < q.length→(0≤(aI q (j:Int)).f1∧(aI q (j:Int)).f1≤7)∧(1≤(aI q (j:Int)).f2∧(aI q (j:Int)).f2≤8):=fun j hj=>by
  obtain ⟨i,hi,e1,e2⟩:=aCU Q j hj
  have hi2:=(Q.mem i).1 hi
  have:=kC l hT i hi2.1 hi2.2.2
  rw [e1,e2]
  exact ⟨this.1,this.2.1⟩
 obtain ⟨ws,efw,_⟩:=aCS q hr (xJ S Q) q.length 0 (by omega) (List.replicate 8 0) rfl (fun j _ hj=>by
  obtain ⟨K,hK⟩:=Int.eq_ofNat_of_zero_le (hr j hj).1.1
  rw [hK,dP,List.getD_eq_getElem?_getD,List.getElem?_replicate]
  split <;> rfl)
 have hvars:∀ j:Nat,j < q.length→(0≤(aI q (j:Int)).f1∧(aI q (j:Int)).f1≤7)∧(1≤(aI q (j:Int)).f2∧(aI q (j:Int)).f2≤8)∧rd ws (aI q (j:Int)).f1=(aI q (j:Int)).f2:=fun j hj=>vF q q.length 0 _ ws rfl efw j (by omega) (by omega)
 obtain ⟨m,hm⟩:∃ m:Nat,(m:Int)=tR l ((l.length:Int) - 1):=⟨_,rfl⟩
 have hroot:=rJ l hT l.length (l.length - 1) (by omega) (by omega)
 have em:m=sY l l.length (l.length - 1):=by
  unfold tR at hm
  rw [show ((l.length:Int) - 1).toNat=l.length - 1 from by omega] at hm
  omega
 rw [← em] at hroot
 have hml:m < l.length:=by omega
 have hT2:=vM l hT (m + 1) (by omega) (by omega)
 obtain ⟨r,er,hTr,hwr,hof⟩:=wU (oU l (m + 1)) hT2
 rw [fE] at hwr hof
 have hnode:∀ j:Nat,j < r.length→qu (aC r (j:Int)).f0=false∧((aC r (j:Int)).f0=1→rd ws (aC r (j:Int)).f2=(aC r (j:Int)).f1):=fun j hj=>by
  obtain ⟨p,hpm,hmk,e0,e1,e2⟩:=hof j hj
  have hk:=aAH l hT m hm hml m p (by omega) hpm hmk
  rw [mZ l (m + 1) p hpm] at e0 e1 e2
  rw [e0,e1,e2]
  refine ⟨hk.2,fun h1=>?_⟩
  obtain ⟨uA,hw8,I,hv⟩:=S.ws
  have hp2:p < l.length:=by omega
  have hvp:=hv p hp2 hk.1 h1
  have hvar:=lC l hT p hp2 h1
  have hnw:=yU l hT p hp2
  obtain ⟨v,hv2⟩:=Int.eq_ofNat_of_zero_le hvar.1
  show rd ws (aC l (p:Int)).f2=(aC l (p:Int)).f1
  obtain ⟨j',hj',hQ,ej⟩:=I.has v (by omega) (by rw [← hv2,hvp];omega)
  obtain ⟨a,ha,a1,a2⟩:=aEB Q j' ((Q.mem j').2 ⟨hj',hQ⟩)
  have h5:=I.at_ j' hj' hQ
  have h6:=(hvars a ha).2.2
  rw [a1,a2] at h6
  rw [hv2,← ej,h6,← h5,ej,← hv2,hvp]
 have ok:lQ q r ws:=by
  refine ⟨hvars,efw,hTr,?_,aAP r _ ws (fun j hj=>⟨(hnode j hj).1,fun _=>(hnode j hj).2⟩) r.length 0 (by omega)⟩
  rw [hwr,show (((m + 1:Nat):Int) - 1)=(m:Int) from by omega,mZ l (m + 1) m (by omega)]
  show (aC l (m:Int)).f1=1
  rw [hroot.2.2.2.1,show ((l.length - 1:Nat):Int)=(l.length:Int) - 1 from by omega]
  exact S.root
 refine ⟨q,r,ws,?_,ok,yN S Q,hql,gU hTr,zM S Q,Q,eq,m,hm,hml,er⟩
 unfold cK.f
 refine bI h ?_
 simp only [if_true,hw]
 refine bI (tJ l hT (by omega)) (bI eq ?_)
 refine sF l hT q _ ?_ l.length 0 (by omega)
 refine bB ?_
 simp only [cK.l0,if_neg (show ¬ (l.length:Int) < (l.length:Int) by omega),hw]
 refine bI (a:=(m:Int)) (by rw [hm];exact vZ l hT _ (by omega) (by omega)) ?_
 have hw2:wrap64 ((m:Int) + 1)=((m + 1:Nat):Int):=eH m (by omega)
 have z1:(0:Int)≤((m + 1:Nat):Int):=Int.natCast_nonneg _
 have z2:((m + 1:Nat):Int)≤(l.length:Int):=Int.ofNat_le.2 hml
 have z3:=rH l l.length (m + 1) hml
 simp only [hw2,if_pos z1,fE,if_pos z2,Int.toNat_natCast,z3]
 exact bI er (bA _)
def wZ (q:List eE) (i:Nat) (xs ys:List Int):Prop:=xs.length=ys.length∧∀ K:Nat,(∀ j:Nat,i≤j→j < q.length→(aI q (j:Int)).f1.toNat≠K)→xs[K]? = ys[K]?
theorem rM (q:List eE) (i:Nat) (xs:List Int):wZ q i xs xs:=⟨rfl,fun _ _=>rfl⟩
theorem uK {q:List eE} {i:Nat} {xs ys zs:List Int} (h:wZ q i xs ys) (h2:wZ q i ys zs):wZ q i xs zs:=⟨h.1.trans h2.1,fun K hK=>(h.2 K hK).trans (h2.2 K hK)⟩
theorem yE {q:List eE} {i:Nat} {xs ys:List Int} (h:wZ q i xs ys) (v:Int):wZ q (i + 1) (xs.set (aI q (i:Int)).f1.toNat v) (ys.set (aI q (i:Int)).f1.toNat v):=by
 refine ⟨by rw [List.length_set,List.length_set];exact h.1,fun K hK=>?_⟩
 rw [List.getElem?_set,List.getElem?_set,h.1]
 by_cases e:(aI q (i:Int)).f1.toNat=K
 ·rw [if_pos e,if_pos e]
 ·rw [if_neg e,if_neg e]
  refine h.2 K (fun j h1 h2=>?_)
  rcases Nat.eq_or_lt_of_le h1 with rfl|h3
  ·exact e
  ·exact hK j (by omega) h2
theorem vR {q:List eE} {i:Nat} (hi:i < q.length) {xs ys:List Int} {v:Int} (h:wZ q (i + 1) xs (ys.set (aI q (i:Int)).f1.toNat v)):wZ q i xs ys:=by
 refine ⟨by rw [h.1,List.length_set],fun K hK=>?_⟩
 rw [h.2 K (fun j h1 h2=>hK j (by omega) h2),List.getElem?_set,if_neg (hK i (Nat.le_refl _) hi)]
theorem yB (q:List eE) (t:Nat):∀ d i,i + d=q.length→∀ a (xs ys:List Int),wZ q i xs ys→mF q t d i a xs=mF q t d i a ys:=by
 intro d
 induction d with
 | zero =>
  intro i hi a xs ys h
  exact List.ext_getElem? fun K=>h.2 K (fun j h1 h2=>by omega)
 | succ d ih =>
  intro i hi a xs ys h
  simp only [mF]
  exact ih (i + 1) (by omega) _ _ _ (yE h _)
theorem xB (q:List eE) (t:Nat):∀ d i,i + d=q.length→∀ a (xs:List Int),wZ q i (mF q t d i a xs) xs:=by
 intro d
 induction d with
 | zero=>intro i hi a xs;exact rM q i xs
 | succ d ih =>
  intro i hi a xs
  simp only [mF]
  exact vR (by omega) (ih (i + 1) (by omega) _ _)
noncomputable def uQ (l:List bN) (xs:List Int):Int:=rd (eL l xs l.length) ((l.length:Int) - 1)
noncomputable def zW (q:List eE) (l:List bN) (d i a:Nat) (xs:List Int):List Bool:=(List.range (2 ^ a)).map fun t=>uQ l (mF q t d i a xs) == 1
theorem rZ (q:List eE) (l:List bN) (d i a:Nat) (xs:List Int):(zW q l d i a xs).length=2 ^ a:=by simp [zW]
theorem yD (q:List eE) (n:Nat):∀ t,wZ q 0 (qH q n t) (List.replicate 8 0):=by
 intro t
 induction t with
 | zero=>exact rM _ _ _
 | succ t ih=>exact uK (xB q t q.length 0 (by omega) n _) ih
theorem zE {q:List eE} {l:List bN} {ws:List Int} (ok:lQ q l ws) (hK:∀ j:Nat,j < l.length → -9223372036854775808≤(aC l (j:Int)).f2∧(aC l (j:Int)).f2≤9223372036854775807) (n:Nat):strOfNums (oJ q l n)=ones (zW q l q.length 0 n (List.replicate 8 0)):=by
 rw [← nJ]
 congr 1
 unfold oJ zW
 rw [List.map_map]
 refine List.map_congr_left fun t _=>?_
 have e:jI q l n t=uQ l (mF q t q.length 0 n (List.replicate 8 0)):=by
  unfold jI uQ
  simp only [qH]
  rw [yB q t q.length 0 (by omega) n _ _ (yD q n t)]
 have hb:=ok.rootBit hK n t
 rw [e] at hb ⊢
 show 48 + uQ l _=sgn (uQ l _ == 1)
 rcases hb with h|h <;> rw [h] <;> rfl
def HQ (l:List bN):List eE→List Int→Prop
 | [],xs=>(uQ l xs == 1)=true
 | x :: q,xs=>if x.f0=true then ∀ y:Nat,y < 2 ^ x.f2.toNat→HQ l q (xs.set x.f1.toNat (y:Int)) else ∃ y:Nat,y < 2 ^ x.f2.toNat∧HQ l q (xs.set x.f1.toNat (y:Int))
theorem aCA (l:List bN) (hT:fT l=true):∀ j:Nat,j < l.length → -9223372036854775808≤(aC l (j:Int)).f2∧(aC l (j:Int)).f2≤9223372036854775807:=by
 intro j hj
 have h:=tA l hT j hj
 generalize aC l (j:Int)=x at h
 generalize l.take j=L at h
 unfold lN at h
 simp only [Bool.and_eq_true,decide_eq_true_eq] at h
 obtain ⟨hW,hO,hU,_,hop⟩:=h
 by_cases h0:x.f0=0
 ·unfold lD at hop
  rw [if_pos h0] at hop
  unfold gQ at hop
  have h1:=of_decide_eq_true hop
  obtain ⟨w,hw⟩:=Int.eq_ofNat_of_zero_le (show 0≤x.f1 by omega)
  rw [hw,Int.toNat_natCast] at h1
  have:=(gD w (by omega)).2
  omega
 by_cases h1:x.f0=1
 ·unfold lD at hop
  rw [if_neg h0,if_pos h1] at hop
  have:=of_decide_eq_true hop
  omega
 by_cases h17:x.f0=17
 ·unfold lD at hop
  rw [if_neg h0,if_neg h1,if_neg (by omega),if_neg (by omega),if_neg (by omega),if_neg (by omega),if_pos h17] at hop
  have h2:=of_decide_eq_true hop
  have h3:wrap64 (w3 L (np x) 0 - x.f1)≤9223372036854775807:=by unfold wrap64;omega
  omega
 by_cases hq:qu x.f0=true
 ·have hq2:=(iZ _).1 hq
  unfold lD at hop
  rw [if_neg h0,if_neg h1,if_neg (by omega),if_neg (by omega),if_neg (by omega),if_neg (by omega),if_neg h17,if_neg (by omega)] at hop
  rw [Bool.and_eq_true] at hop
  have:=of_decide_eq_true hop.1
  omega
 ·have hz:x.f2=0:=by
   unfold fQ at hU
   rw [if_neg (by omega),if_neg h17,if_neg hq] at hU
   repeat' split at hU
   all_goals simp only [Bool.and_eq_true,beq_iff_eq] at hU
   all_goals first|exact hU|exact hU.1
  omega
theorem wI (o W K A B C A' B' C' w a b c:Int) (hK : -9223372036854775808≤K∧K≤9223372036854775807):yK o W K A B C w a b c=yK o W K A' B' C' w a b c:=by
 refine nT (mX o W K A B C w a b c hK).2 (tB (fun k=>?_) (mX o W K A' B' C' w a b c hK).2)
 rw [apS,apS]
 cases k with
 | zero=>rfl
 | succ k=>rfl
theorem yH {l r:List bN} {pl:List Int} (hT:fT l=true) (hTr:fT r=true) (V:zJ l l.length r pl) (e:List Int):∀ p:Nat,p < l.length→cW false (gR l) (p:Int)=true→(eL r e r.length).getD (rd pl (p:Int)).toNat 0=(eL l e l.length).getD p 0:=by
 have hK:=aCA l hT
 intro p
 induction p using Nat.strongRecOn with|ind p ih =>
 intro hp hm
 have hat:=V.at_ p hp hm
 obtain ⟨j,hj⟩:=Int.eq_ofNat_of_zero_le hat.1.1
 have hjr:j < r.length:=by omega
 rw [hj,Int.toNat_natCast,gZ r e j r.length hjr,gZ l e p l.length hp]
 have hx:aC r (j:Int)=mv (rd pl) (aC l (p:Int)):=by rw [← hj];exact hat.2
 rw [hx]
 have hpp:=dV l hT p hp
 have hmp:=jM l hT p hp hm
 have hpr:=dV r hTr j hjr
 rw [hx,rC] at hpr
 unfold oW
 show (if (aC l (p:Int)).f0=1 then rd e (aC l (p:Int)).f2 else _)=_
 by_cases h1:(aC l (p:Int)).f0=1
 ·rw [if_pos h1,if_pos h1]
 ·rw [if_neg h1,if_neg h1,rC]
  have hw:qL r ((np (aC l (p:Int))).map (rd pl))=qL l (np (aC l (p:Int))):=by
   unfold qL
   rw [List.length_map]
   by_cases h:0 < (np (aC l (p:Int))).length
   ·rw [if_pos h,if_pos h]
    have e0:rd ((np (aC l (p:Int))).map (rd pl)) 0=rd pl (rd (np (aC l (p:Int))) 0):=by
     show rd _ ((0:Nat):Int)=rd pl (rd _ ((0:Nat):Int))
     rw [dP,dP,dM _ 0 _ (by rw [List.length_map];exact h),dM _ 0 _ h,List.getElem_map]
    have hmem:rd (np (aC l (p:Int))) 0∈np (aC l (p:Int)):=by
     show rd _ ((0:Nat):Int)∈_
     rw [dP,dM _ 0 _ h]
     exact List.getElem_mem h
    have hb:=hpp _ hmem
    have hmq:=hmp _ hmem
    rw [e0]
    obtain ⟨x,hx2⟩:=Int.eq_ofNat_of_zero_le hb.1
    rw [hx2] at hb hmq ⊢
    rw [(V.at_ x (by omega) hmq).2]
    rfl
   ·rw [if_neg h,if_neg h]
  have part:∀ q:Nat,v3 (eL r e j) ((np (aC l (p:Int))).map (rd pl)) q=v3 (eL l e p) (np (aC l (p:Int))) q:=fun q=>by
   unfold v3
   rw [List.length_map]
   by_cases h:q < (np (aC l (p:Int))).length
   ·rw [if_pos h,if_pos h]
    have e0:rd ((np (aC l (p:Int))).map (rd pl)) (q:Int)=rd pl (rd (np (aC l (p:Int))) (q:Int)):=by
     rw [dP,dP,dM _ q _ (by rw [List.length_map];exact h),dM _ q _ h,List.getElem_map]
    have hmem:rd (np (aC l (p:Int))) (q:Int)∈np (aC l (p:Int)):=by
     rw [dP,dM _ q _ h]
     exact List.getElem_mem h
    have hb:=hpp _ hmem
    have hmq:=hmp _ hmem
    have hbr:=hpr _ (List.mem_map.2 ⟨_,hmem,rfl⟩)
    rw [e0]
    obtain ⟨x,hx2⟩:=Int.eq_ofNat_of_zero_le hb.1
    rw [hx2] at hb hmq hbr ⊢
    have hv:=ih x (by omega) (by omega) hmq
    obtain ⟨y,hy⟩:=Int.eq_ofNat_of_zero_le hbr.1
    rw [hy] at hv hbr ⊢
    rw [Int.toNat_natCast] at hv
    rw [dP,dP,kA r e y j r.length (by omega) (by omega),kA l e x p l.length (by omega) (by omega)]
    exact hv
   ·rw [if_neg h,if_neg h]
  rw [hw,part 0,part 1,part 2]
  exact wI _ _ _ _ _ _ _ _ _ _ _ _ _ (hK p hp)
theorem tX {l r:List bN} {pl:List Int} (hT:fT l=true) (hTr:fT r=true) (V:zJ l l.length r pl) (e:List Int):uQ r e=uQ l e:=by
 have hp:=fH hT
 have hpr:=fH hTr
 have h:=yH hT hTr V e (l.length - 1) (by omega) (iH l hp)
 rw [V.last (l.length - 1) (by omega) (iH l hp),show ((r.length:Int) - 1).toNat=r.length - 1 from by omega] at h
 unfold uQ
 rw [show ((l.length:Int) - 1)=((l.length - 1:Nat):Int) from by omega,show ((r.length:Int) - 1)=((r.length - 1:Nat):Int) from by omega,dP,dP]
 exact h
end Go.Proofs.Ythipjoioicmcnaa.Pure
