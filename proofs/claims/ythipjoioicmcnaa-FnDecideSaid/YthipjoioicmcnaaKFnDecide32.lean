-- texts of this session, merged by a program of it (wip/gen/pack.py)
import Derived.Test.YthipjoioicmcnaaKFnDecide31
import Derived.Test.YthipjoioicmcnaaKFnDecide9
import Derived.Test.YthipjoioicmcnaaKFnDecide15
import Derived.Test.YthipjoioicmcnaaKFnDecide7
import Derived.Test.YthipjoioicmcnaaKFnDecide29
import Derived.Test.YthipjoioicmcnaaKFnDecide19
import Derived.Test.YthipjoioicmcnaaKFnDecide2
import Derived.Test.YthipjoioicmcnaaKFnDecide3
import Derived.Test.YthipjoioicmcnaaKFnDecide4
import Derived.Test.YthipjoioicmcnaaKFnDecide24
import Derived.Test.YthipjoioicmcnaaKFnDecide14
import Derived.Test.YthipjoioicmcnaaKFnDecide21
import Derived.Test.YthipjoioicmcnaaKFnDecide23
import Derived.Test.YthipjoioicmcnaaKFnDecide28
import Derived.Test.YthipjoioicmcnaaKFnDecide27
import Derived.Test.YthipjoioicmcnaaKFnDecide18
import Derived.Test.YthipjoioicmcnaaKFnDecide12
set_option linter.unusedVariables false
set_option linter.unusedSimpArgs false
set_option maxHeartbeats 80000000
set_option maxRecDepth 100000
namespace Go.Proofs.Ythipjoioicmcnaa.Pure
open Go.RowKit Go.Proofs.Ythipjoioicmcnaa.G Go.Proofs.YthipjoioicmcnaaW.PrintWords Go.Proofs.YthipjoioicmcnaaW.PrintLast Go.Proofs.YthipjoioicmcnaaW.PrintMore
theorem aFQ (x y z:Int):decide (x≤y∧y≤z)=(decide (x≤y) && decide (y≤z)):=by
 rw [Bool.decide_and]
theorem aDR {α:Type} {l:List α} (h:l.length=2):∃ x y,l=[x,y]:=by
 match l,h with
 | [x,y],_=>exact ⟨x,y,rfl⟩
theorem aHD {α:Type} {l:List α} (h:l.length=3):∃ x y z,l=[x,y,z]:=by
 match l,h with
 | [x,y,z],_=>exact ⟨x,y,z,rfl⟩
theorem tI (x a b:Int):qQ x a b=decide (a≤x∧x≤b):=rfl
theorem aDQ {α:Type} {l:List α} (h:l.length=1):∃ x,l=[x]:=List.length_eq_one_iff.1 h
theorem aDX (o w kk a b c:Int) (h1:1≤w) (h8:w≤8) (ws:List Int) (hws:ws.length=(parts o a b c).length) :
  Ev (fun k=>ndS k ⟨o,w,kk,a,b,c⟩ ws) (decide (0≤o∧o≤20) && (gO o kk a b c && mL o w kk b (ws.getD 0 0) (ws.getD 1 0) (ws.getD 2 0))):=by
 obtain ⟨n,rfl⟩:=Int.eq_ofNat_of_zero_le (show 0≤w by omega)
 by_cases h0:o=0
 ·subst h0
  simp only [ndS,if_true]
  refine bC (a:=iA n kk) (f:=fun _ t=>some (t && (a == 0 && (b == 0 && c == 0)))) (kU n (by omega) (by omega) kk) ?_
  simp only [gO,mL,if_true,true_or,Int.toNat_natCast]
  rw [show (iA n kk && (a == 0 && (b == 0 && c == 0)))=(decide ((0:Int)≤0∧(0:Int)≤20) && (a == 0 && (b == 0 && c == 0) && iA n kk)) from by rw [Bool.and_comm];rfl]
  exact bA _
 refine rT (f:=fun _=>some (decide (0≤o∧o≤20) && (gO o kk a b c && mL o (n:Int) kk b (ws.getD 0 0) (ws.getD 1 0) (ws.getD 2 0)))) (fun k=>?_) (bA _)
 simp only [ndS,if_neg h0,tI]
 by_cases h1':o=1
 ·subst h1'
  simp [gO,mL,Bool.and_comm,Bool.and_left_comm]
 simp only [if_neg h1']
 by_cases h2:o=2
 ·subst h2
  obtain ⟨x,rfl⟩:=aDQ (hws.trans (by simp [parts]))
  simp [gO,mL,qu,rd,Bool.and_comm,Bool.and_left_comm]
 simp only [if_neg h2]
 by_cases h4:3≤o∧o≤12
 ·have hp:parts o a b c=[a,b]:=by
   unfold parts qu
   rw [if_neg (by simp;omega),if_pos (by omega)]
  obtain ⟨x,y,rfl⟩:=aDR (hws.trans (by rw [hp];rfl))
  have hu:gO o kk a b c=(kk == 0 && c == 0):=by
   unfold gO qu
   rw [if_neg (by omega),if_neg (by omega),if_neg (by simp;omega),if_neg (by omega),if_pos (by omega)]
  have ho:mL o (n:Int) kk b x y 0=(x == (n:Int) && y == (n:Int)):=by
   unfold mL
   rw [if_neg (by omega),if_neg (by omega),if_neg (by omega),if_pos h4]
  simp [decide_eq_true h4,hu,ho,rd,decide_eq_true (show 0≤o∧o≤20 by omega),h4,show (0≤o) by omega,show o≤20 by omega]
  cases x == (n:Int) <;> cases y == (n:Int) <;> cases kk == 0 <;> cases c == 0 <;> rfl
 simp only [decide_eq_false h4,Bool.false_eq_true,if_false]
 by_cases h5:13≤o∧o≤15
 ·have hp:parts o a b c=[a,b]:=by
   unfold parts qu
   rw [if_neg (by simp;omega),if_pos (by omega)]
  obtain ⟨x,y,rfl⟩:=aDR (hws.trans (by rw [hp];rfl))
  have hu:gO o kk a b c=(kk == 0 && c == 0):=by
   unfold gO qu
   rw [if_neg (by omega),if_neg (by omega),if_neg (by simp;omega),if_neg (by omega),if_pos (by omega)]
  have ho:mL o (n:Int) kk b x y 0=(x == y && (n:Int) == 1):=by
   unfold mL
   rw [if_neg (by omega),if_neg (by omega),if_neg (by omega),if_neg (by omega),if_pos h5]
  simp [hu,ho,rd,Bool.and_comm,Bool.and_left_comm,h5,show (0≤o) by omega,show o≤20 by omega]
 simp only [decide_eq_false h5,Bool.false_eq_true,if_false]
 by_cases h16:o=16
 ·subst h16
  obtain ⟨x,y,rfl⟩:=aDR (hws.trans (by simp [parts,qu]))
  simp [gO,mL,qu,rd,Bool.and_comm,Bool.and_left_comm]
 simp only [if_neg h16]
 by_cases h17:o=17
 ·subst h17
  obtain ⟨x,rfl⟩:=aDQ (hws.trans (by simp [parts]))
  by_cases hk:0≤kk
  ·simp [gO,mL,qu,rd,Bool.and_comm,Bool.and_left_comm,aFQ,hk]
  ·simp [gO,mL,qu,rd,Bool.and_comm,Bool.and_left_comm,aFQ,hk]
 simp only [if_neg h17]
 by_cases h18:o=18
 ·subst h18
  obtain ⟨x,y,z,rfl⟩:=aHD (hws.trans (by simp [parts,qu]))
  simp [gO,mL,qu,rd]
  cases x == 1 <;> cases y == (n:Int) <;> cases z == (n:Int) <;> cases kk == 0 <;> rfl
 simp only [if_neg h18]
 by_cases hq:o=19∨o=20
 ·have hp:parts o a b c=[a]:=by
   unfold parts qu
   rw [if_pos (by simp;omega)]
  obtain ⟨x,rfl⟩:=aDQ (hws.trans (by rw [hp];rfl))
  have hu:gO o kk a b c=(c == 0):=by
   unfold gO qu
   rw [if_neg (by omega),if_neg (by omega),if_pos (by simpa using hq)]
  have ho:mL o (n:Int) kk b x 0 0=(decide (0≤kk∧kk≤7) && (decide (1≤b∧b≤8) && (x == 1 && (n:Int) == 1))):=by
   unfold mL
   rw [if_neg (by omega),if_neg (by omega),if_neg (by omega),if_neg (by omega),if_neg (by omega),if_neg (by omega),if_neg (by omega),if_neg (by omega)]
  rw [if_pos hq]
  simp only [List.length_singleton,if_pos (show 0 < 1 by decide),rd,Int.toNat_zero,List.getD_cons_zero,hu,ho,List.getD_cons_succ,List.getD_nil,decide_eq_true (show 0≤o∧o≤20 by omega),Bool.true_and]
  congr 1
  cases decide (0≤kk∧kk≤7) <;> cases decide (1≤b∧b≤8) <;> cases x == 1 <;> cases (n:Int) == 1 <;> cases c == 0 <;> rfl
 ·rw [if_neg hq,decide_eq_false (show ¬ (0≤o∧o≤20) by omega),Bool.false_and]
theorem aDY (l:List bL) (ps:List Int) (hps:ps.length≤3) (hp:∀ p∈ps,0≤p∧p < (l.length:Int)):Ev (fun k=>wU k l ps [] 0) (ps.map fun p=>(aC l p).f1):=by
 have main:∀ j,j≤ps.length→Ev (fun k=>wU k l ps ((ps.take j).map fun p=>(aC l p).f1) (j:Int)) (ps.map fun p=>(aC l p).f1):=by
  refine lM (fun k j=>wU k l ps ((ps.take j).map fun p=>(aC l p).f1) (j:Int)) ps.length _ (fun j hj h=>?_) ?_
  ·have hr:rd ps (j:Int)=ps[j]:=by rw [eO,dZ ps j _ hj]
   have hm:=hp _ (List.getElem_mem hj)
   refine aZ ?_
   simp only [wU,if_pos (show (j:Int) < (ps.length:Int) by omega),hr,eP j (show j < 4611686018427387904 by omega),
    if_pos (show (0≤(j:Int)∧(0≤ps[j]∧ps[j] < (l.length:Int)))∧(((ps.take j).map fun p=>(aC l p).f1).length:Nat) < 17592186044416 from ⟨⟨by omega,hm⟩,by simp;omega⟩)]
   rw [show ((ps.take j).map fun p=>(aC l p).f1) ++ [(aC l ps[j]).f1]=((ps.take (j + 1)).map fun p=>(aC l p).f1) from by rw [List.take_succ_eq_append_getElem hj,List.map_append];rfl]
   exact h
  ·refine aZ ?_
   simp only [wU,if_neg (show ¬ (ps.length:Int) < (ps.length:Int) by omega),List.take_length]
   exact bA _
 exact main 0 (by omega)
theorem aDW (i:Nat) (hi:i≤1048576) (ps:List Int) (hps:ps.length≤3):Ev (fun k=>zQ k ps (i:Int) 0) (vG (i:Int) ps):=by
 have hw:wrap64 ((i:Int) - 1)=(i:Int) - 1:=jR (by omega) (by omega)
 have main:∀ d j,j + d=ps.length→(∀ q (hq:q < ps.length),q < j→0≤ps[q]∧ps[q]≤(i:Int) - 1)→Ev (fun k=>zQ k ps (i:Int) (j:Int)) (vG (i:Int) ps):=by
  intro d
  induction d with
  | zero =>
   intro j hj hok
   have hall:vG (i:Int) ps=true:=by
    unfold vG
    rw [List.all_eq_true]
    intro p hp
    obtain ⟨q,hq,rfl⟩:=List.getElem_of_mem hp
    exact decide_eq_true (hok q hq (by omega))
   refine aZ ?_
   simp only [zQ,if_neg (show ¬ (j:Int) < (ps.length:Int) by omega)]
   rw [hall]
   exact bA _
  | succ d ih =>
   intro j hj hok
   have hj2:j < ps.length:=by omega
   have hr:rd ps (j:Int)=ps[j]:=by rw [eO,dZ ps j _ hj2]
   refine aZ ?_
   simp only [zQ,if_pos (show (j:Int) < (ps.length:Int) by omega),if_pos (show 0≤(j:Int) by omega),hr,hw,tI,eP j (show j < 4611686018427387904 by omega)]
   by_cases hc:0≤ps[j]∧ps[j]≤(i:Int) - 1
   ·simp only [decide_eq_true hc,if_true]
    refine ih (j + 1) (by omega) (fun q hq hq2=>?_)
    rcases Nat.lt_succ_iff_lt_or_eq.1 hq2 with h|rfl
    ·exact hok q hq h
    ·exact hc
   ·simp only [decide_eq_false hc,Bool.false_eq_true,if_false]
    have hall:vG (i:Int) ps=false:=by
     unfold vG
     rw [List.all_eq_false]
     exact ⟨ps[j],List.getElem_mem hj2,by simpa using hc⟩
    rw [hall]
    exact bA _
 exact main ps.length 0 (by omega) (fun q _ hq=>by omega)
theorem aFY (l:List bL) (i:Nat) (hi:i < l.length) (hl:l.length≤1048576):Ev (fun k=>fR.f k l (i:Int)) (nG (l.take i) (aC l (i:Int))):=by
 generalize hx:aC l (i:Int)=x
 have hlen:((l.take i).length:Int)=(i:Int):=by rw [List.length_take];omega
 have hn3:=jG x
 have hrd:∀ p:Int,0≤p→p≤(i:Int) - 1→aC (l.take i) p=aC l p:=fun p h0 h1=>by
  unfold aC
  rw [List.getD_eq_getElem?_getD,List.getD_eq_getElem?_getD,List.getElem?_take,if_pos (by omega)]
 have fin:nG (l.take i) x=(vG (i:Int) (np x) && (decide (1≤x.f1∧x.f1≤8) && (decide (0≤x.f0∧x.f0≤20) && (gO x.f0 x.f2 x.f3 x.f4 x.f5 && mL x.f0 x.f1 x.f2 x.f4 (((np x).map fun p=>(aC l p).f1).getD 0 0) (((np x).map fun p=>(aC l p).f1).getD 1 0) (((np x).map fun p=>(aC l p).f1).getD 2 0))))):=by
  unfold nG
  rw [hlen]
  cases hp:vG (i:Int) (np x) with
  | false=>simp
  | true =>
   have hall:∀ p∈np x,0≤p∧p≤(i:Int) - 1:=fun p hm=>by
    unfold vG at hp
    rw [List.all_eq_true] at hp
    exact of_decide_eq_true (hp p hm)
   have hw:∀ q:Nat,w3 (l.take i) (np x) q=((np x).map fun p=>(aC l p).f1).getD q 0:=fun q=>by
    unfold w3
    rw [List.getD_eq_getElem?_getD,List.getElem?_map]
    by_cases hq:q < (np x).length
    ·rw [if_pos hq,eO,dZ (np x) q _ hq,List.getElem?_eq_getElem hq]
     have:=hall _ (List.getElem_mem hq)
     rw [hrd _ this.1 this.2]
     rfl
    ·rw [if_neg hq,List.getElem?_eq_none (by omega)]
     rfl
   rw [hw 0,hw 1,hw 2,Bool.true_and,Bool.true_and]
 rw [fin]
 unfold fR.f
 simp only [if_pos (show 0≤(i:Int)∧(i:Int) < (l.length:Int) by omega),hx]
 refine bC (f:=fun k ps=>(zQ k ps (i:Int) 0).bind fun t=>if t=true then (if qQ x.f1 1 8=true then (wU k l ps [] 0).bind fun ws=>ndS k x ws else some false) else some false) (kV (f:=fun _=>some (np x)) (fun k=>qU k _ _ _ _ _ _) (bA _)) ?_
 refine bC (f:=fun k t=>if t=true then (if qQ x.f1 1 8=true then (wU k l (np x) [] 0).bind fun ws=>ndS k x ws else some false) else some false) (aDW i (by omega) (np x) hn3) ?_
 cases hp:vG (i:Int) (np x) with
 | false =>
  simp only [Bool.false_eq_true,if_false,Bool.false_and]
  exact bA _
 | true =>
  have hall:∀ p∈np x,0≤p∧p < (l.length:Int):=fun p hm=>by
   unfold vG at hp
   rw [List.all_eq_true] at hp
   have:=of_decide_eq_true (hp p hm)
   omega
  simp only [if_true,Bool.true_and,tI]
  by_cases hW:1≤x.f1∧x.f1≤8
  ·simp only [decide_eq_true hW,if_true,Bool.true_and]
   refine bC (f:=fun k ws=>ndS k x ws) (aDY l (np x) hn3 hall) ?_
   exact aDX x.f0 x.f1 x.f2 x.f3 x.f4 x.f5 hW.1 hW.2 ((np x).map fun p=>(aC l p).f1) (by rw [List.length_map];rfl)
  ·simp only [decide_eq_false hW,Bool.false_eq_true,if_false,Bool.false_and]
   exact bA _
def tmA (l:List bL):Nat→Nat→Bool
 | 0,_=>true
 | d + 1,i=>nG (l.take i) (aC l (i:Int)) && tmA l d (i + 1)
def fN (l:List bL):Bool:=decide (1≤(l.length:Int)∧(l.length:Int)≤80) && tmA l l.length 0
theorem rI (l:List bL):∀ d i,tmA l d i=true→∀ j,i≤j→j < i + d→nG (l.take j) (aC l (j:Int))=true:=by
 intro d
 induction d with
 | zero=>intro i _ j h1 h2;omega
 | succ d ih =>
  intro i h j h1 h2
  simp only [tmA,Bool.and_eq_true] at h
  rcases Nat.lt_or_ge i j with h3|h3
  ·exact ih (i + 1) h.2 j (by omega) (by omega)
  ·obtain rfl:j=i:=by omega
   exact h.1
theorem nT (l:List bL) (hl:l.length≤1048576):Ev (fun k=>cE.f k l) (fN l):=by
 unfold cE.f fN
 simp only [pG,Option.bind_some]
 by_cases h:1≤(l.length:Int)∧(l.length:Int)≤80
 ·simp only [decide_eq_true h,if_true,Bool.true_and]
  have main:∀ d i,i + d=l.length→Ev (fun k=>cE.l0 k l (i:Int)) (tmA l d i):=by
   intro d
   induction d with
   | zero =>
    intro i hi
    refine aZ ?_
    simp only [cE.l0,if_neg (show ¬ (i:Int) < (l.length:Int) by omega)]
    exact bA _
   | succ d ih =>
    intro i hi
    refine aZ ?_
    simp only [cE.l0,if_pos (show (i:Int) < (l.length:Int) by omega),eP i (show i < 4611686018427387904 by omega)]
    refine bC (a:=nG (l.take i) (aC l (i:Int))) (f:=fun k t108=>if t108=true then (cE.l0 k l ((i + 1:Nat):Int)) else (some false)) (aFY l i (by omega) hl) ?_
    unfold tmA
    cases nG (l.take i) (aC l (i:Int)) with
    | false=>exact bA _
    | true =>
     simp only [if_true,Bool.true_and]
     exact ih (i + 1) (by omega)
  exact main l.length 0 (by omega)
 ·simp only [decide_eq_false h,Bool.false_eq_true,if_false,Bool.false_and]
  exact bA _
theorem dD (l:List bL) (h:fN l=true) (i:Nat) (hi:i < l.length):∀ p∈np (aC l (i:Int)),0≤p∧p≤(i:Int) - 1:=by
 unfold fN at h
 rw [Bool.and_eq_true] at h
 have h1:=rI l l.length 0 h.2 i (by omega) (by omega)
 unfold nG at h1
 simp only [Bool.and_eq_true] at h1
 have h2:=h1.2.2.2.1
 unfold vG at h2
 rw [List.all_eq_true] at h2
 intro p hp
 have:=of_decide_eq_true (h2 p hp)
 rw [List.length_take] at this
 omega
def wT (ms:List Bool) (ps:List Int):List Bool:=ps.foldl (fun m p=>m.set p.toNat true) ms
theorem mE (ps:List Int):∀ ms:List Bool,(wT ms ps).length=ms.length:=by
 induction ps with
 | nil=>intro ms;rfl
 | cons p ps ih =>
  intro ms
  show (wT (ms.set p.toNat true) ps).length=_
  rw [ih,List.length_set]
def pF (l:List bL):Nat→List Bool→List Bool
 | 0,ms=>ms
 | j + 1,ms=>pF l j (if cL false ms (j:Int)=true then wT ms (np (aC l (j:Int))) else ms)
theorem fK (ms:List Bool) (j:Nat):cL false ms (j:Int)=ms.getD j false:=by unfold cL;simp
theorem vD (ms:List Bool) (j:Nat) (q:Nat) (h:ms.getD j false=true):(ms.set q true).getD j false=true:=by
 rw [List.getD_eq_getElem?_getD] at h ⊢
 rw [List.getElem?_set]
 by_cases e:q=j
 ·subst e
  rw [if_pos rfl]
  by_cases hq:q < ms.length
  ·rw [if_pos hq];rfl
  ·rw [List.getElem?_eq_none (by omega)] at h
   simp at h
 ·rw [if_neg e]
  exact h
theorem aEI (l:List bL) (i:Nat) (ps:List Int) (hp3:ps.length≤3) (r:List Bool) (n:Nat) (hi:i < n) (hn:n≤1048576) (hp:∀ p∈ps,0≤p∧p < (n:Int)) (ms:List Bool) (hm:ms.length=n)
  (e:Ev (fun k=>bH.l1 k l (if cL false ms (i:Int)=true then wT ms ps else ms) ((i:Int) - 1)) r):Ev (fun k=>bH.l2 k l ms (i:Int) ps 0) r:=by
 have hw:wrap64 ((i:Int) - 1)=(i:Int) - 1:=jR (by omega) (by omega)
 by_cases hc:cL false ms (i:Int)=true
 ·rw [if_pos hc] at e
  have main:∀ d j,j + d=ps.length→∀ m:List Bool,m.length=n→cL false m (i:Int)=true→wT m (ps.drop j)=wT ms ps→Ev (fun k=>bH.l2 k l m (i:Int) ps (j:Int)) r:=by
   intro d
   induction d with
   | zero =>
    intro j hj m hm hr he
    rw [List.drop_of_length_le (by omega)] at he
    refine aZ ?_
    simp only [bH.l2,if_neg (show ¬ (j:Int) < (ps.length:Int) by omega)]
    rw [show m=wT ms ps from he,hw]
    exact e
   | succ d ih =>
    intro j hj m hm hr he
    have hj2:j < ps.length:=by omega
    have hq:rd ps (j:Int)=ps[j]:=by rw [eO,dZ ps j _ hj2]
    have hpj:=hp _ (List.getElem_mem hj2)
    refine aZ ?_
    simp only [bH.l2,if_pos (show (j:Int) < (ps.length:Int) by omega),if_pos (show 0≤(i:Int) by omega),if_pos (show (i:Int) < (m.length:Int) by omega),hr,if_true,if_pos (show 0≤(j:Int) by omega),hq,if_pos hpj.1,if_pos (show ps[j] < (m.length:Int) by omega),eP j (show j < 4611686018427387904 by omega)]
    refine ih (j + 1) (by omega) _ (by rw [List.length_set];exact hm) ?_ ?_
    ·rw [fK] at hr ⊢
     exact vD m i _ hr
    ·rw [← he,List.drop_eq_getElem_cons hj2]
     rfl
  exact main ps.length 0 (by omega) ms hm hc (by rw [List.drop_zero])
 ·rw [if_neg hc] at e
  refine aZ ?_
  by_cases hl:(0:Int) < (ps.length:Int)
  ·simp only [bH.l2,if_pos hl,if_pos (show 0≤(i:Int) by omega),if_pos (show (i:Int) < (ms.length:Int) by omega),if_neg hc]
   rw [hw]
   exact e
  ·simp only [bH.l2,if_neg hl]
   rw [hw]
   exact e
theorem aEH (l:List bL) (hT:fN l=true) (hn:l.length≤1048576):∀ j,j≤l.length→∀ ms:List Bool,ms.length=l.length→Ev (fun k=>bH.l1 k l ms ((j:Int) - 1)) (pF l j ms):=by
 intro j
 induction j with
 | zero =>
  intro _ ms _
  refine aZ ?_
  simp only [bH.l1,if_neg (show ¬ (((0:Nat):Int) - 1 ≥ 0) by omega)]
  exact bA _
 | succ j ih =>
  intro hj ms hm
  rw [show ((j + 1:Nat):Int) - 1=(j:Int) from by omega]
  refine aZ ?_
  simp only [bH.l1,if_pos (show (j:Int) ≥ 0 by omega),if_pos (show 0≤(j:Int) by omega),if_pos (show (j:Int) < (l.length:Int) by omega)]
  refine bC (a:=np (aC l (j:Int))) (f:=fun k t108=>bH.l2 k l ms (j:Int) t108 0) (kV (f:=fun _=>some (np (aC l (j:Int)))) (fun k=>qU k _ _ _ _ _ _) (bA _)) ?_
  refine aEI l j _ (jG _) _ l.length (by omega) hn (fun p hp=>by have:=dD l hT j (by omega) p hp;omega) ms hm ?_
  exact ih (by omega) _ (by split <;> simp [mE,hm])
def oM (n:Nat):List Bool:=(List.replicate n false).set (n - 1) true
theorem gK (n:Nat):(oM n).length=n:=by simp [oM]
theorem tV (l:List bL) (hT:fN l=true) (hn:l.length≤1048576):Ev (fun k=>bH.f k l) (pF l l.length (oM l.length)):=by
 have hw:wrap64 ((l.length:Int) - 1)=(l.length:Int) - 1:=jR (by omega) (by omega)
 have main:∀ j,j≤l.length→Ev (fun k=>bH.l0 k l ((oM l.length).take j) (j:Int)) (pF l l.length (oM l.length)):=by
  refine lM (fun k j=>bH.l0 k l ((oM l.length).take j) (j:Int)) l.length _ (fun j hj h=>?_) ?_
  ·refine aZ ?_
   simp only [bH.l0,if_pos (show (j:Int) < (l.length:Int) by omega),if_pos (show ((oM l.length).take j).length < 140737488355328 by simp;omega),eP j (show j < 4611686018427387904 by omega),hw]
   rw [show (oM l.length).take j ++ [((j:Int) == (l.length:Int) - 1)]=(oM l.length).take (j + 1) from by
    rw [List.take_succ_eq_append_getElem (by rw [gK];exact hj)]
    congr 2
    simp only [oM,List.getElem_set,List.getElem_replicate]
    by_cases e:l.length - 1=j
    ·rw [if_pos e]
     exact beq_iff_eq.2 (by omega)
    ·rw [if_neg e]
     exact beq_eq_false_iff_ne.2 (by omega)]
   exact h
  ·refine aZ ?_
   simp only [bH.l0,if_neg (show ¬ (l.length:Int) < (l.length:Int) by omega),hw]
   rw [List.take_of_length_le (by rw [gK];omega)]
   exact aEH l hT hn l.length (by omega) _ (gK _)
 exact main 0 (by omega)
def rX (q:List eS):Nat→Nat→List Int→Option (List Int)
 | 0,_,ws=>some ws
 | d + 1,i,ws=>if (0≤(aV q (i:Int)).f1∧(aV q (i:Int)).f1≤7)∧(1≤(aV q (i:Int)).f2∧(aV q (i:Int)).f2≤8)∧rd ws (aV q (i:Int)).f1=0 then rX q d (i + 1) (ws.set (aV q (i:Int)).f1.toNat (aV q (i:Int)).f2) else none
def zL (ws:List Int):Prop:=ws.length=8∧∀ x∈ws,0≤x
theorem zM {ws:List Int} (h:zL ws) (j:Nat) (v:Int) (hv:0≤v):zL (ws.set j v):=by
 refine ⟨by rw [List.length_set];exact h.1,fun x hx=>?_⟩
 rcases List.mem_or_eq_of_mem_set hx with h1|rfl
 ·exact h.2 x h1
 ·exact hv
def orF (x:Option (List Int)) (R:List Int→Bool):Bool:=match x with|none=>false|some ws=>R ws
theorem fwS (q:List eS) (l:List bL) (hq:q.length≤1048576) (R:List Int→Bool) (hR:∀ ws,zL ws→Ev (fun k=>(bH.f k l).bind fun t115=>(bV.l1 k l ws t115 0)) (R ws)) :
  ∀ d i,i + d=q.length→∀ ws,zL ws→Ev (fun k=>bV.l0 k q l ws (i:Int)) (orF (rX q d i ws) R):=by
 intro d
 induction d with
 | zero =>
  intro i hi ws hw
  refine aZ ?_
  simp only [bV.l0,if_neg (show ¬ (i:Int) < (q.length:Int) by omega),rX,orF]
  exact hR ws hw
 | succ d ih =>
  intro i hi ws hw
  refine aZ ?_
  simp only [bV.l0,rX,if_pos (show (i:Int) < (q.length:Int) by omega),if_pos (show 0≤(i:Int) by omega),pG,Option.bind_some,eP i (show i < 4611686018427387904 by omega)]
  by_cases h1:0≤(aV q (i:Int)).f1∧(aV q (i:Int)).f1≤7
  ·simp only [decide_eq_true h1,if_true]
   by_cases h2:1≤(aV q (i:Int)).f2∧(aV q (i:Int)).f2≤8
   ·have h8:=hw.1
    simp only [decide_eq_true h2,if_true,if_pos h1.1,if_pos (show (aV q (i:Int)).f1 < (ws.length:Int) by omega)]
    by_cases h3:rd ws (aV q (i:Int)).f1=0
    ·simp only [if_pos h3,if_pos (show (0≤(aV q (i:Int)).f1∧(aV q (i:Int)).f1≤7)∧(1≤(aV q (i:Int)).f2∧(aV q (i:Int)).f2≤8)∧rd ws (aV q (i:Int)).f1=0 from ⟨h1,h2,h3⟩)]
     exact ih (i + 1) (by omega) _ (zM hw _ _ (by omega))
    ·rw [if_neg (fun h=>h3 h.2.2)]
     simp only [if_neg h3]
     exact bA _
   ·rw [if_neg (fun h=>h2 h.2.1)]
    simp only [decide_eq_false h2,Bool.false_eq_true,if_false]
    exact bA _
  ·rw [if_neg (fun h=>h1 h.1)]
   simp only [decide_eq_false h1,Bool.false_eq_true,if_false]
   exact bA _
theorem mH (l:List bL):∀ j (ms:List Bool),(pF l j ms).length=ms.length:=by
 intro j
 induction j with
 | zero=>intro ms;rfl
 | succ j ih =>
  intro ms
  unfold pF
  rw [ih]
  split
  ·exact mE _ _
  ·rfl
theorem lK (l:List bL) (h:fN l=true) (i:Nat) (hi:i < l.length) (ho:(aC l (i:Int)).f0=1):0≤(aC l (i:Int)).f2∧(aC l (i:Int)).f2≤7:=by
 unfold fN at h
 rw [Bool.and_eq_true] at h
 have h1:=rI l l.length 0 h.2 i (by omega) (by omega)
 unfold nG at h1
 simp only [Bool.and_eq_true] at h1
 have h2:=h1.2.2.2.2
 unfold mL at h2
 rw [if_neg (by omega),if_pos ho] at h2
 exact of_decide_eq_true h2
def vZ (l:List bL) (ms:List Bool) (ws:List Int):Nat→Nat→Bool
 | 0,_=>true
 | d + 1,i => !qu (aC l (i:Int)).f0 && ((if cL false ms (i:Int)=true then (if (aC l (i:Int)).f0=1 then rd ws (aC l (i:Int)).f2 == (aC l (i:Int)).f1 else true) else true) && vZ l ms ws d (i + 1))
theorem fnS (l:List bL) (hT:fN l=true) (hn:l.length≤1048576) (ms:List Bool) (hm:ms.length=l.length) (ws:List Int) (hw:ws.length=8):∀ d i,i + d=l.length→Ev (fun k=>bV.l1 k l ws ms (i:Int)) (vZ l ms ws d i):=by
 intro d
 induction d with
 | zero =>
  intro i hi
  refine aZ ?_
  simp only [bV.l1,if_neg (show ¬ (i:Int) < (l.length:Int) by omega),vZ]
  exact bA _
 | succ d ih =>
  intro i hi
  refine aZ ?_
  simp only [bV.l1,vZ,if_pos (show (i:Int) < (l.length:Int) by omega),if_pos (show 0≤(i:Int) by omega),quS,Option.bind_some,if_pos (show (i:Int) < (ms.length:Int) by omega),eP i (show i < 4611686018427387904 by omega)]
  cases qu (aC l (i:Int)).f0 with
  | true=>exact bA _
  | false =>
   simp only [Bool.false_eq_true,if_false,Bool.not_false,Bool.true_and]
   by_cases hr:cL false ms (i:Int)=true
   ·simp only [if_pos hr]
    by_cases ho:(aC l (i:Int)).f0=1
    ·have hv:=lK l hT i (by omega) ho
     simp only [if_pos ho,if_pos hv.1,if_pos (show (aC l (i:Int)).f2 < (ws.length:Int) by omega)]
     by_cases he:rd ws (aC l (i:Int)).f2=(aC l (i:Int)).f1
     ·simp only [if_pos he,beq_iff_eq.2 he,Bool.true_and]
      exact ih (i + 1) (by omega)
     ·simp only [if_neg he,beq_eq_false_iff_ne.2 he,Bool.false_and]
      exact bA _
    ·simp only [if_neg ho,Bool.true_and]
     exact ih (i + 1) (by omega)
   ·simp only [if_neg hr,Bool.true_and]
    exact ih (i + 1) (by omega)
def wB (q:List eS) (l:List bL):Bool:=match rX q q.length 0 (List.replicate 8 0) with
 | none=>false
 | some ws=>fN l && ((aC l ((l.length:Int) - 1)).f1 == 1 && vZ l (pF l l.length (oM l.length)) ws l.length 0)
theorem uK:zL (List.replicate 8 0):=⟨rfl,fun x hx=>by rw [List.eq_of_mem_replicate hx];exact Int.le_refl _⟩
theorem fF {l:List bL} (hT:fN l=true):1≤l.length:=by
 unfold fN at hT
 rw [Bool.and_eq_true] at hT
 have:=of_decide_eq_true hT.1
 omega
theorem pE:Ev (fun k=>cN.f k) (List.replicate 8 0):=by
 have main:∀ j,j≤8→Ev (fun k=>cN.l0 k (List.replicate j 0) (j:Int)) (List.replicate 8 0):=by
  refine lM (fun k j=>cN.l0 k (List.replicate j 0) (j:Int)) 8 _ (fun j hj h=>?_) ?_
  ·refine aZ ?_
   simp only [cN.l0,if_pos (show (j:Int) < 8 by omega),if_pos (show (List.replicate j (0:Int)).length < 17592186044416 by simp;omega),eP j (show j < 4611686018427387904 by omega),← List.replicate_succ']
   exact h
  ·refine aZ ?_
   simp only [cN.l0,if_neg (show ¬ ((8:Nat):Int) < 8 by omega)]
   exact bA _
 exact main 0 (by omega)
theorem aDI (q:List eS) (l:List bL) (hq:q.length≤1048576) (hl:l.length≤1048576):Ev (fun k=>bV.f k q l) (wB q l):=by
 have hw:wrap64 ((l.length:Int) - 1)=(l.length:Int) - 1:=jR (by omega) (by omega)
 have stop:Ev (fun k=>bV.j0 k q l true) false:=aZ (by simp only [bV.j0,if_true];exact bA _)
 unfold bV.f
 refine bC (a:=fN l) (f:=fun k t101=>if t101=true then (if 0≤(wrap64 ((l.length:Int) - 1)) then (if (wrap64 ((l.length:Int) - 1)) < (l.length:Int) then (bV.j0 k q l (((aC l (wrap64 ((l.length:Int) - 1))).f1) != 1)) else (none)) else (none)) else (bV.j0 k q l true)) (nT l hl) ?_
 cases hT:fN l with
 | false =>
  have hz:wB q l=false:=by
   unfold wB
   rw [hT]
   cases rX q q.length 0 (List.replicate 8 0) <;> rfl
  rw [hz]
  exact stop
 | true =>
  have hp:=fF hT
  simp only [if_true,hw,if_pos (show 0≤(l.length:Int) - 1 by omega),if_pos (show (l.length:Int) - 1 < (l.length:Int) by omega)]
  by_cases hW:(aC l ((l.length:Int) - 1)).f1=1
  ·have hz:wB q l=orF (rX q q.length 0 (List.replicate 8 0)) (fun ws=>vZ l (pF l l.length (oM l.length)) ws l.length 0):=by
    unfold wB orF
    rw [hT,beq_iff_eq.2 hW]
    cases rX q q.length 0 (List.replicate 8 0) <;> rfl
   rw [hz]
   simp only [bne_eq_false_iff_eq.2 hW]
   refine aZ ?_
   simp only [bV.j0,Bool.false_eq_true,if_false]
   refine bC (a:=List.replicate 8 0) (f:=fun k t103=>bV.l0 k q l t103 0) pE ?_
   refine fwS q l hq _ (fun ws hws=>?_) q.length 0 (by omega) _ uK
   refine bC (a:=pF l l.length (oM l.length)) (f:=fun k t115=>bV.l1 k l ws t115 0) (tV l hT hl) ?_
   exact fnS l hT hl _ (by rw [mH,gK]) ws hws.1 l.length 0 (by omega)
  ·have hz:wB q l=false:=by
    unfold wB
    rw [hT,beq_eq_false_iff_ne.2 hW]
    cases rX q q.length 0 (List.replicate 8 0) <;> rfl
   rw [hz]
   simp only [bne_iff_ne.2 hW]
   exact stop
theorem nQ (x:bL):Ev (fun k=>cG.f k x.f0 x.f1 x.f2 x.f3 x.f4 x.f5) (np x):=kV (f:=fun _=>some (np x)) (fun k=>qU k _ _ _ _ _ _) (bA _)
abbrev r8 (x3:List (List Bool)):Prop:=∀ p:Nat,p < x3.length→(x3.getD p []).length=8
theorem xP (l:List bL) (x3:List (List Bool)) (i v:Nat) (hi:i < l.length) (hn:l.length≤1048576) (h3:x3.length=i) (h8:r8 x3) (hv:v < 8) (x5:List Bool) (h5:x5.length=v) (R:List Bool) (ps:List Int) (hl:ps.length≤3) (hp:∀ p∈ps,0≤p∧p≤(i:Int) - 1)
  (hR:∀ b:Bool,Ev (fun k=>aT.l1 k l x3 (i:Int) (x5 ++ [b]) ((v + 1:Nat):Int)) R∨True) (hE:∀ b:Bool,∃ R',R'.length=8∧Ev (fun k=>aT.l1 k l x3 (i:Int) (x5 ++ [b]) ((v + 1:Nat):Int)) R') :
  ∀ d j,j + d=ps.length→∀ f:Bool,∃ R',R'.length=8∧Ev (fun k=>aT.l2 k l x3 (i:Int) x5 (v:Int) f ps (j:Int)) R':=by
 intro d
 induction d with
 | zero =>
  intro j hj f
  have hx:x5.length < 140737488355328:=by omega
  by_cases c:(aC l (i:Int)).f0=19
  ·by_cases c2:(aC l (i:Int)).f2=(v:Int)
   ·obtain ⟨R',h,e⟩:=hE false
    refine ⟨R',h,aZ ?_⟩
    simp only [aT.l2,if_neg (show ¬ (j:Int) < (ps.length:Int) by omega),if_pos (show 0≤(i:Int) by omega),if_pos (show (i:Int) < (l.length:Int) by omega),if_pos c,if_pos c2,if_pos hx,eP v (show v < 4611686018427387904 by omega)]
    exact e
   ·obtain ⟨R',h,e⟩:=hE f
    refine ⟨R',h,aZ ?_⟩
    simp only [aT.l2,if_neg (show ¬ (j:Int) < (ps.length:Int) by omega),if_pos (show 0≤(i:Int) by omega),if_pos (show (i:Int) < (l.length:Int) by omega),if_pos c,if_neg c2,if_pos hx,eP v (show v < 4611686018427387904 by omega)]
    exact e
  ·by_cases c1:(aC l (i:Int)).f0=20
   ·by_cases c2:(aC l (i:Int)).f2=(v:Int)
    ·obtain ⟨R',h,e⟩:=hE false
     refine ⟨R',h,aZ ?_⟩
     simp only [aT.l2,if_neg (show ¬ (j:Int) < (ps.length:Int) by omega),if_pos (show 0≤(i:Int) by omega),if_pos (show (i:Int) < (l.length:Int) by omega),if_neg c,if_pos c1,if_pos c2,if_pos hx,eP v (show v < 4611686018427387904 by omega)]
     exact e
    ·obtain ⟨R',h,e⟩:=hE f
     refine ⟨R',h,aZ ?_⟩
     simp only [aT.l2,if_neg (show ¬ (j:Int) < (ps.length:Int) by omega),if_pos (show 0≤(i:Int) by omega),if_pos (show (i:Int) < (l.length:Int) by omega),if_neg c,if_pos c1,if_neg c2,if_pos hx,eP v (show v < 4611686018427387904 by omega)]
     exact e
   ·obtain ⟨R',h,e⟩:=hE f
    refine ⟨R',h,aZ ?_⟩
    simp only [aT.l2,if_neg (show ¬ (j:Int) < (ps.length:Int) by omega),if_pos (show 0≤(i:Int) by omega),if_pos (show (i:Int) < (l.length:Int) by omega),if_neg c,if_neg c1,if_pos hx,eP v (show v < 4611686018427387904 by omega)]
    exact e
 | succ d ih =>
  intro j hj f
  cases f with
  | true =>
   obtain ⟨R',h,e⟩:=ih (j + 1) (by omega) true
   refine ⟨R',h,aZ ?_⟩
   simp only [aT.l2,if_pos (show (j:Int) < (ps.length:Int) by omega),if_true,eP j (show j < 4611686018427387904 by omega)]
   exact e
  | false =>
   have hm:rd ps (j:Int)∈ps:=by rw [eO,dZ ps j _ (by omega)];exact List.getElem_mem _
   obtain ⟨p0,p1⟩:=hp _ hm
   obtain ⟨q,hq⟩:=Int.eq_ofNat_of_zero_le p0
   have hr8:(fH x3 (rd ps (j:Int))).length=8:=by
    rw [hq]
    exact h8 q (by omega)
   obtain ⟨R',h,e⟩:=ih (j + 1) (by omega) (cL false (fH x3 (rd ps (j:Int))) (v:Int))
   refine ⟨R',h,aZ ?_⟩
   simp only [aT.l2,if_pos (show (j:Int) < (ps.length:Int) by omega),Bool.false_eq_true,if_false,if_pos (show 0≤(j:Int) by omega),if_pos p0,if_pos (show rd ps (j:Int) < (x3.length:Int) by omega),if_pos (show 0≤(v:Int) by omega),hr8,if_pos (show (v:Int) < ((8:Nat):Int) by omega),eP j (show j < 4611686018427387904 by omega)]
   exact e
theorem xO (l:List bL) (hT:fN l=true) (hn:l.length≤1048576) (x3:List (List Bool)) (i:Nat) (hi:i < l.length) (h3:x3.length=i) (h8:r8 x3)
  (hE:∀ row:List Bool,row.length=8→∃ R',R'.length=8∧Ev (fun k=>aT.l0 k l (x3 ++ [row]) ((i + 1:Nat):Int)) R') :
  ∀ d v,v + d=8→∀ x5:List Bool,x5.length=v→∃ R',R'.length=8∧Ev (fun k=>aT.l1 k l x3 (i:Int) x5 (v:Int)) R':=by
 intro d
 induction d with
 | zero =>
  intro v hv x5 h5
  obtain ⟨R',h,e⟩:=hE x5 (by omega)
  refine ⟨R',h,aZ ?_⟩
  simp only [aT.l1,if_neg (show ¬ (v:Int) < 8 by omega),if_pos (show x3.length < 5864062014805 by omega),eP i (show i < 4611686018427387904 by omega)]
  exact e
 | succ d ih =>
  intro v hv x5 h5
  have key:=xP l x3 i v hi hn h3 h8 (by omega) x5 h5 [] (np (aC l (i:Int))) (jG _) (dD l hT i hi) (fun _=>Or.inr trivial) (fun b=>ih (v + 1) (by omega) (x5 ++ [b]) (by simp [h5])) (np (aC l (i:Int))).length 0 (by omega)
  have kj:∀ f:Bool,∃ R',R'.length=8∧Ev (fun k=>aT.j2 k l x3 (i:Int) x5 (v:Int) f) R':=fun f=>by
   obtain ⟨R',h,e⟩:=key f
   refine ⟨R',h,aZ ?_⟩
   simp only [aT.j2,if_pos (show 0≤(i:Int) by omega),if_pos (show (i:Int) < (l.length:Int) by omega)]
   exact bC (f:=fun k t=>aT.l2 k l x3 (i:Int) x5 (v:Int) f t 0) (nQ _) e
  by_cases c:(aC l (i:Int)).f0=1
  ·obtain ⟨R',h,e⟩:=kj ((aC l (i:Int)).f2 == (v:Int))
   refine ⟨R',h,aZ ?_⟩
   simp only [aT.l1,if_pos (show (v:Int) < 8 by omega),if_pos (show 0≤(i:Int) by omega),if_pos (show (i:Int) < (l.length:Int) by omega),if_pos c]
   exact e
  ·obtain ⟨R',h,e⟩:=kj false
   refine ⟨R',h,aZ ?_⟩
   simp only [aT.l1,if_pos (show (v:Int) < 8 by omega),if_pos (show 0≤(i:Int) by omega),if_pos (show (i:Int) < (l.length:Int) by omega),if_neg c]
   exact e
theorem xN (l:List bL) (hT:fN l=true) (hn:l.length≤1048576):∃ R',R'.length=8∧Ev (fun k=>aT.f k l) R':=by
 have hpos:=fF hT
 have hw:wrap64 ((l.length:Int) - 1)=(l.length:Int) - 1:=jR (by omega) (by omega)
 have main:∀ d i,i + d=l.length→∀ x3:List (List Bool),x3.length=i→r8 x3→∃ R',R'.length=8∧Ev (fun k=>aT.l0 k l x3 (i:Int)) R':=by
  intro d
  induction d with
  | zero =>
   intro i hi x3 h3 h8
   refine ⟨fH x3 ((l.length:Int) - 1),?_,aZ ?_⟩
   ·have:=h8 (l.length - 1) (by omega)
    rw [show ((l.length:Int) - 1)=((l.length - 1:Nat):Int) from by omega]
    exact this
   ·simp only [aT.l0,if_neg (show ¬ (i:Int) < (l.length:Int) by omega),hw,if_pos (show 0≤(l.length:Int) - 1 by omega),if_pos (show (l.length:Int) - 1 < (x3.length:Int) by omega)]
    exact bA _
  | succ d ih =>
   intro i hi x3 h3 h8
   obtain ⟨R',h,e⟩:=xO l hT hn x3 i (by omega) h3 h8 (fun row hr=>ih (i + 1) (by omega) (x3 ++ [row]) (by simp [h3]) (fun p hp=>by
    simp only [List.length_append,List.length_singleton] at hp
    rw [List.getD_eq_getElem?_getD]
    by_cases hpl:p < x3.length
    ·rw [List.getElem?_append_left hpl,← List.getD_eq_getElem?_getD]
     exact h8 p hpl
    ·rw [List.getElem?_append_right (by omega),show p - x3.length=0 by omega]
     exact hr)) 8 0 (by omega) [] rfl
   refine ⟨R',h,aZ ?_⟩
   simp only [aT.l0,if_pos (show (i:Int) < (l.length:Int) by omega)]
   exact e
 exact main l.length 0 (by omega) [] rfl (fun p hp=>by simp at hp)
theorem aAM (l:List bL) (hT:fN l=true) (hn:l.length≤1048576):∃ r,Ev (fun k=>cT.f k l) r:=by
 obtain ⟨is,h8,e⟩:=xN l hT hn
 have main:∀ d i,i + d=8→∀ out:List Int,out.length≤i→∃ r,Ev (fun k=>cT.l0 k out is (i:Int)) r:=by
  intro d
  induction d with
  | zero =>
   intro i hi out ho
   refine ⟨out,aZ ?_⟩
   simp only [cT.l0,if_neg (show ¬ (i:Int) < 8 by omega)]
   exact bA _
  | succ d ih =>
   intro i hi out ho
   cases hb:cL false is (i:Int) with
   | true =>
    obtain ⟨r,e⟩:=ih (i + 1) (by omega) (out ++ [(i:Int)]) (by simp;omega)
    refine ⟨r,aZ ?_⟩
    simp only [cT.l0,if_pos (show (i:Int) < 8 by omega),if_pos (show 0≤(i:Int) by omega),if_pos (show (i:Int) < (is.length:Int) by omega),hb,if_true,if_pos (show out.length < 17592186044416 by omega),eP i (show i < 4611686018427387904 by omega)]
    exact e
   | false =>
    obtain ⟨r,e⟩:=ih (i + 1) (by omega) out (by omega)
    refine ⟨r,aZ ?_⟩
    simp only [cT.l0,if_pos (show (i:Int) < 8 by omega),if_pos (show 0≤(i:Int) by omega),if_pos (show (i:Int) < (is.length:Int) by omega),hb,Bool.false_eq_true,if_false,eP i (show i < 4611686018427387904 by omega)]
    exact e
 obtain ⟨r,e2⟩:=main 8 0 (by omega) [] (by simp)
 refine ⟨r,?_⟩
 unfold cT.f
 simp only [Option.bind_some]
 refine bC (a:=true) (f:=fun k t104=>if t104=true then ((aT.f k l).bind fun t105=>(cT.l0 k [] t105 0)) else some []) (by rw [← hT];exact nT l hn) ?_
 simp only [if_true]
 exact bC (f:=fun k t105=>cT.l0 k [] t105 0) e e2
def oJ (l:List bL):Nat→List Bool
 | 0=>[]
 | n + 1=>oJ l n ++ [qu (aC l (n:Int)).f0 || (np (aC l (n:Int))).any fun p=>cL false (oJ l n) p]
theorem iB (l:List bL) (n:Nat):(oJ l n).length=n:=by
 induction n with
 | zero=>rfl
 | succ n ih=>simp [oJ,ih]
theorem uU (l:List bL) (hT:fN l=true) (hn:l.length≤1048576):Ev (fun k=>bM.f k l) (oJ l l.length):=by
 have main:∀ i,i≤l.length→Ev (fun k=>bM.l0 k l (oJ l i) (i:Int)) (oJ l l.length):=by
  refine lM (fun k i=>bM.l0 k l (oJ l i) (i:Int)) l.length _ (fun i hi h=>?_) ?_
  ·have hp:=dD l hT i hi
   have hl:=iB l i
   have inner:∀ ps:List Int,(∀ p∈ps,0≤p∧p≤(i:Int) - 1)→ps.length≤3→∀ d j,j + d=ps.length→∀ f:Bool,Ev (fun k=>bM.l0 k l (oJ l i ++ [f || (ps.drop j).any fun p=>cL false (oJ l i) p]) ((i + 1:Nat):Int)) (oJ l l.length)→Ev (fun k=>bM.l1 k l (oJ l i) (i:Int) f ps (j:Int)) (oJ l l.length):=by
    intro ps hp hl3 d
    induction d with
    | zero =>
     intro j hj f e
     refine aZ ?_
     simp only [bM.l1,if_neg (show ¬ (j:Int) < (ps.length:Int) by omega),if_pos (show (oJ l i).length < 140737488355328 by omega),eP i (show i < 4611686018427387904 by omega)]
     rw [List.drop_of_length_le (by omega),List.any_nil,Bool.or_false] at e
     exact e
    | succ d ih =>
     intro j hj f e
     have hjl:j < ps.length:=by omega
     have hrd:rd ps (j:Int)=ps[j]:=by rw [eO,dZ ps j _ hjl]
     rw [List.drop_eq_getElem_cons hjl,List.any_cons,← Bool.or_assoc] at e
     refine aZ ?_
     cases f with
     | true =>
      simp only [bM.l1,if_pos (show (j:Int) < (ps.length:Int) by omega),if_true,eP j (show j < 4611686018427387904 by omega)]
      exact ih (j + 1) (by omega) true (by simpa using e)
     | false =>
      obtain ⟨p0,p1⟩:=hp _ (List.getElem_mem hjl)
      simp only [bM.l1,if_pos (show (j:Int) < (ps.length:Int) by omega),Bool.false_eq_true,if_false,if_pos (show 0≤(j:Int) by omega),hrd,if_pos p0,if_pos (show ps[j] < ((oJ l i).length:Int) by omega),eP j (show j < 4611686018427387904 by omega)]
      exact ih (j + 1) (by omega) _ (by simpa using e)
   refine aZ ?_
   simp only [bM.l0,if_pos (show (i:Int) < (l.length:Int) by omega),if_pos (show 0≤(i:Int) by omega),quS,Option.bind_some]
   refine bC (f:=fun k t=>bM.l1 k l (oJ l i) (i:Int) (qu (aC l (i:Int)).f0) t 0) (nQ _) ?_
   exact inner _ hp (jG _) _ 0 (by rw [Nat.zero_add]) _ h
  ·refine aZ ?_
   simp only [bM.l0,if_neg (show ¬ (l.length:Int) < (l.length:Int) by omega)]
   exact bA _
 exact main 0 (by omega)
theorem qP (l:List bL) (i:Nat):∀ n,i < n→cL false (oJ l n) (i:Int)=(qu (aC l (i:Int)).f0 || (np (aC l (i:Int))).any fun p=>cL false (oJ l i) p):=by
 intro n
 induction n with
 | zero=>intro h;omega
 | succ n ih =>
  intro h
  rw [fK]
  simp only [oJ]
  rw [List.getD_eq_getElem?_getD]
  by_cases hin:i < n
  ·rw [List.getElem?_append_left (by rw [iB];exact hin),← List.getD_eq_getElem?_getD,← fK]
   exact ih hin
  ·obtain rfl:i=n:=by omega
   rw [List.getElem?_append_right (by rw [iB];omega),iB,Nat.sub_self]
   rfl
theorem xU (l:List bL) (i n m:Nat) (h1:i < n) (h2:i < m):cL false (oJ l n) (i:Int)=cL false (oJ l m) (i:Int):=by rw [qP l i n h1,qP l i m h2]
theorem xM (l:List bL) (ms:List Bool) (ws:List Int):∀ d i,vZ l ms ws d i=true→∀ j,i≤j→j < i + d→qu (aC l (j:Int)).f0=false:=by
 intro d
 induction d with
 | zero=>intro i _ j h1 h2;omega
 | succ d ih =>
  intro i h j h1 h2
  simp only [vZ,Bool.and_eq_true] at h
  rcases Nat.lt_or_ge i j with h3|h3
  ·exact ih (i + 1) h.2.2 j (by omega) (by omega)
  ·obtain rfl:j=i:=by omega
   simpa using h.1
noncomputable def vO (o W K A B C w a b c:Int):Int:=if h : -9223372036854775808≤K∧K≤9223372036854775807 then Classical.choose (uN o W K A B C w a b c h) else 0
theorem nD (o W K A B C w a b c:Int) (h : -9223372036854775808≤K∧K≤9223372036854775807):Ev (fun k=>bJ.f k o W K A B C w a b c) (vO o W K A B C w a b c)∧Ev (fun k=>bS.f k o W K A B C w a b c) (vO o W K A B C w a b c):=by
 unfold vO
 rw [dif_pos h]
 exact Classical.choose_spec (uN o W K A B C w a b c h)
def v3 (vs:List Int) (ps:List Int) (q:Nat):Int:=if q < ps.length then rd vs (rd ps (q:Int)) else 0
def oC (l:List bL) (ps:List Int):Int:=if 0 < ps.length then (aC l (rd ps 0)).f1 else 1
noncomputable def tQ (l:List bL) (e vs:List Int) (x:bL):Int :=
 if x.f0=1 then rd e x.f2 else vO x.f0 x.f1 x.f2 x.f3 x.f4 x.f5 (oC l (np x)) (v3 vs (np x) 0) (v3 vs (np x) 1) (v3 vs (np x) 2)
noncomputable def gD (l:List bL) (e:List Int):Nat→List Int
 | 0=>[]
 | i + 1=>gD l e i ++ [tQ l e (gD l e i) (aC l (i:Int))]
theorem gV (l:List bL) (e:List Int) (i:Nat):(gD l e i).length=i:=by
 induction i with
 | zero=>rfl
 | succ i ih=>simp [gD,ih]
theorem yI (k:Nat) (l:List bL) (vs:List Int) (hv:vs.length≤l.length) (o a b c:Int) (hp:∀ p∈parts o a b c,0≤p∧p < (vs.length:Int)) :
  sR (k + 4) l vs (parts o a b c) 0 1 [0,0,0]=some (oC l (parts o a b c),[v3 vs (parts o a b c) 0,v3 vs (parts o a b c) 1,v3 vs (parts o a b c) 2]):=by
 have h01:wrap64 1=1:=by unfold wrap64;omega
 have h12:wrap64 2=2:=by unfold wrap64;omega
 have h23:wrap64 3=3:=by unfold wrap64;omega
 have len:parts o a b c=[]∨parts o a b c=[a]∨parts o a b c=[a,b]∨parts o a b c=[a,b,c]:=by
  unfold parts
  repeat' split
  all_goals simp
 rcases len with e|e|e|e <;> rw [e] at hp ⊢
 ·simp [sR,oC,v3]
 ·have h1:=hp a (by simp)
  have g1:a < (l.length:Int):=by omega
  simp [sR,oC,v3,rd,h01,h1,g1]
 ·have h1:=hp a (by simp)
  have h2:=hp b (by simp)
  have g1:a < (l.length:Int):=by omega
  simp [sR,oC,v3,rd,h01,h12,h1,h2,g1]
 ·have h1:=hp a (by simp)
  have h2:=hp b (by simp)
  have h3:=hp c (by simp)
  have g1:a < (l.length:Int):=by omega
  simp [sR,oC,v3,rd,h01,h12,h23,h1,h2,h3,g1]
theorem aHF (l:List bL) (hT:fN l=true) (hn:l.length≤1048576) (e vs:List Int) (he:e.length=8) (i:Nat) (hi:i < l.length) (hv:vs.length=i) (hq:qu (aC l (i:Int)).f0=false) (hK : -9223372036854775808≤(aC l (i:Int)).f2∧(aC l (i:Int)).f2≤9223372036854775807) :
  Ev (fun k=>gN.f k l e vs (i:Int)) (tQ l e vs (aC l (i:Int))):=by
 have hpp:=dD l hT i hi
 unfold gN.f tQ
 simp only [if_pos (show 0≤(i:Int)∧(i:Int) < (l.length:Int) by omega)]
 by_cases ho:(aC l (i:Int)).f0=1
 ·have hx:=lK l hT i hi ho
  simp only [if_pos ho,if_pos (show 0≤(aC l (i:Int)).f2∧(aC l (i:Int)).f2 < (e.length:Int) by omega)]
  exact bA _
 ·simp only [if_neg ho,quS,hq,Option.bind_some,Bool.false_eq_true,if_false]
  refine bC (a:=np (aC l (i:Int))) (f:=fun k ps=>(sR k l vs ps 0 1 [0,0,0]).bind fun q=>bS.f k (aC l (i:Int)).f0 (aC l (i:Int)).f1 (aC l (i:Int)).f2 (aC l (i:Int)).f3 (aC l (i:Int)).f4 (aC l (i:Int)).f5 q.1 (rd q.2 0) (rd q.2 1) (rd q.2 2)) (kV (f:=fun _=>some (np (aC l (i:Int)))) (fun k=>qU k _ _ _ _ _ _) (bA _)) ?_
  refine bC (a:=(oC l (np (aC l (i:Int))),[v3 vs (np (aC l (i:Int))) 0,v3 vs (np (aC l (i:Int))) 1,v3 vs (np (aC l (i:Int))) 2])) (f:=fun k q=>bS.f k (aC l (i:Int)).f0 (aC l (i:Int)).f1 (aC l (i:Int)).f2 (aC l (i:Int)).f3 (aC l (i:Int)).f4 (aC l (i:Int)).f5 q.1 (rd q.2 0) (rd q.2 1) (rd q.2 2)) ⟨4,fun k hk=>?_⟩ ?_
  ·obtain ⟨m,rfl⟩:∃ m,k=m + 4:=⟨k - 4,by omega⟩
   exact yI m l vs (by omega) _ _ _ _ (fun p hp=>by have:=hpp p hp;omega)
  ·exact (nD _ _ _ _ _ _ _ _ _ _ hK).2
theorem atS (l:List bL) (hT:fN l=true) (hn:l.length≤1048576) (e:List Int) (he:e.length=8) (hq:∀ j:Nat,j < l.length→qu (aC l (j:Int)).f0=false) (hK:∀ j:Nat,j < l.length → -9223372036854775808≤(aC l (j:Int)).f2∧(aC l (j:Int)).f2≤9223372036854775807) :
  Ev (fun k=>iU.f k l e ((l.length:Int) - 1)) (rd (gD l e l.length) ((l.length:Int) - 1)):=by
 have hp:=fF hT
 have main:∀ j,j≤l.length→Ev (fun k=>xD l e ((l.length:Int) - 1) k (gD l e j) (j:Int)) (rd (gD l e l.length) ((l.length:Int) - 1)):=by
  refine lM (fun k j=>xD l e ((l.length:Int) - 1) k (gD l e j) (j:Int)) l.length _ (fun j hj h=>?_) ?_
  ·refine aZ ?_
   simp only [xD,if_pos (show (j:Int)≤(l.length:Int) - 1 by omega)]
   refine bC (a:=tQ l e (gD l e j) (aC l (j:Int))) (f:=fun k v=>if (gD l e j).length < 17592186044416 then xD l e ((l.length:Int) - 1) k (gD l e j ++ [v]) (wrap64 ((j:Int) + 1)) else none) (aHF l hT hn e (gD l e j) he j hj (gV l e j) (hq j hj) (hK j hj)) ?_
   simp only [gV,if_pos (show j < 17592186044416 by omega),eP j (show j < 4611686018427387904 by omega)]
   exact h
  ·refine aZ ?_
   simp only [xD,if_neg (show ¬ (l.length:Int)≤(l.length:Int) - 1 by omega),gV,if_pos (show 0≤(l.length:Int) - 1∧(l.length:Int) - 1 < (l.length:Int) by omega)]
   exact bA _
 exact main 0 (by omega)
theorem lS (l:List bL) (e:List Int) (i:Nat):∀ n,i < n→(gD l e n).getD i 0=tQ l e (gD l e i) (aC l (i:Int)):=by
 intro n
 induction n with
 | zero=>intro h;omega
 | succ n ih =>
  intro h
  simp only [gD]
  rw [List.getD_eq_getElem?_getD]
  rcases Nat.lt_or_ge i n with h1|h1
  ·rw [List.getElem?_append_left (by rw [gV];exact h1),← List.getD_eq_getElem?_getD]
   exact ih h1
  ·obtain rfl:i=n:=by omega
   rw [List.getElem?_append_right (by rw [gV];omega),gV,Nat.sub_self]
   rfl
theorem oZ (l:List bL) (e:List Int) (i n m:Nat) (h1:i < n) (h2:i < m):(gD l e n).getD i 0=(gD l e m).getD i 0:=by rw [lS l e i n h1,lS l e i m h2]
theorem tT (o:Int):quB o=qu o:=by
 unfold quB qu
 by_cases h:o=19
 ·rw [if_pos h,decide_eq_true (Or.inl h)]
 ·rw [if_neg h]
  by_cases h2:o=20
  ·rw [decide_eq_true (Or.inr h2),beq_iff_eq.2 h2]
  ·rw [decide_eq_false (by omega),beq_eq_false_iff_ne.2 h2]
theorem jN (o:Int):qu o=true↔o=19∨o=20:=by unfold qu;exact decide_eq_true_iff
theorem vF {o:Int} (h:wH o=true):o=2∨o=3∨o=4∨qu o=true:=by
 unfold wH at h
 by_cases h2:o=2
 ·exact Or.inl h2
 rw [if_neg h2] at h
 by_cases h3:o=3
 ·exact Or.inr (Or.inl h3)
 rw [if_neg h3] at h
 by_cases h4:o=4
 ·exact Or.inr (Or.inr (Or.inl h4))
 rw [if_neg h4,tT] at h
 exact Or.inr (Or.inr (Or.inr h))
theorem sK (l:List bL) (h:fN l=true) (i:Nat) (hi:i < l.length):nG (l.take i) (aC l (i:Int))=true:=by
 unfold fN at h
 rw [Bool.and_eq_true] at h
 exact rI l l.length 0 h.2 i (by omega) (by omega)
theorem rB (l:List bL) (i p:Nat) (h:p < i):aC (l.take i) (p:Int)=aC l (p:Int):=by
 unfold aC
 rw [List.getD_eq_getElem?_getD,List.getD_eq_getElem?_getD,List.getElem?_take,if_pos (by omega)]
theorem iZ (l:List bL) (h:fN l=true) (i:Nat) (hi:i < l.length) (hq:qu (aC l (i:Int)).f0=true) :
  (0≤(aC l (i:Int)).f2∧(aC l (i:Int)).f2≤7)∧(1≤(aC l (i:Int)).f4∧(aC l (i:Int)).f4≤8)∧np (aC l (i:Int))=[(aC l (i:Int)).f3]∧(aC l (i:Int)).f1=1∧(aC l (aC l (i:Int)).f3).f1=1:=by
 have hn:=sK l h i hi
 have hp:=dD l h i hi
 have hnp:np (aC l (i:Int))=[(aC l (i:Int)).f3]:=by
  unfold np parts
  rw [if_pos (Or.inr (Or.inr hq))]
 rw [hnp] at hp
 have hp0:=hp _ (List.mem_singleton.2 rfl)
 have hq':=(jN _).1 hq
 unfold nG at hn
 simp only [Bool.and_eq_true] at hn
 obtain ⟨_,_,_,_,ho⟩:=hn
 unfold mL at ho
 rw [if_neg (by omega),if_neg (by omega),if_neg (by omega),if_neg (by omega),if_neg (by omega),if_neg (by omega),if_neg (by omega),if_neg (by omega)] at ho
 simp only [Bool.and_eq_true,beq_iff_eq] at ho
 obtain ⟨h1,h2,h3,h4⟩:=ho
 refine ⟨of_decide_eq_true h1,of_decide_eq_true h2,hnp,h4,?_⟩
 unfold w3 at h3
 rw [hnp,if_pos (show 0 < [(aC l (i:Int)).f3].length by simp)] at h3
 obtain ⟨p,hp'⟩:=Int.eq_ofNat_of_zero_le hp0.1
 have:rd [(aC l (i:Int)).f3] ((0:Nat):Int)=(p:Int):=by rw [hp'];rfl
 rw [this,rB l i p (by omega)] at h3
 rw [hp']
 exact h3
abbrev rQ (l:List bL) (M:List Bool) (j:Nat):Prop:=cL false M (j:Int)=true∧qu (aC l (j:Int)).f0=true
structure snI (l:List bL) (M:List Bool) (i:Nat) (ws:List Int):Prop where
 at_:∀ j,j < i→rQ l M j→rd ws (aC l (j:Int)).f2=(aC l (j:Int)).f4
 one:∀ j j',j < i→j' < i→rQ l M j→rQ l M j'→(aC l (j:Int)).f2=(aC l (j':Int)).f2→j=j'
 has:∀ v:Nat,v < 8→rd ws (v:Int)≠0→∃ j,j < i∧rQ l M j∧(aC l (j:Int)).f2=(v:Int)
theorem nH (ws:List Int) (K v:Int) (j:Int) (hK:0≤K) (hj:0≤j) (hl:K < (ws.length:Int)):rd (ws.set K.toNat v) j=if j=K then v else rd ws j:=by
 unfold rd
 rw [List.getD_eq_getElem?_getD,List.getD_eq_getElem?_getD,List.getElem?_set]
 by_cases e:j=K
 ·subst e
  rw [if_pos rfl,if_pos rfl,if_pos (by omega)]
  rfl
 ·rw [if_neg e,if_neg (by omega)]
theorem aEP (l:List bL) (hT:fN l=true) (hn:l.length≤1048576) (M:List Bool) (hM:M.length=l.length):∀ d i,i + d=l.length→∀ ws:List Int,ws.length=8→snI l M i ws→∃ o,Ev (fun k=>yV k l M (i:Int) ws) o∧∀ ws',o=some ws'→ws'.length=8∧snI l M l.length ws':=by
 intro d
 induction d with
 | zero =>
  intro i hi ws hw I
  obtain rfl:i=l.length:=by omega
  refine ⟨some ws,aZ ?_,fun ws' e=>by cases e;exact ⟨hw,I⟩⟩
  simp only [yV,if_neg (show ¬ (l.length:Int) < (l.length:Int) by omega)]
  exact bA _
 | succ d ih =>
  intro i hi ws hw I
  by_cases c:cL false M (i:Int)=true∧quB (aC l (i:Int)).f0=true
  ·have hq:qu (aC l (i:Int)).f0=true:=by rw [← tT];exact c.2
   obtain ⟨k0,b0,_⟩:=iZ l hT i (by omega) hq
   by_cases z:rd ws (aC l (i:Int)).f2=0
   ·refine Exists.elim (ih (i + 1) (by omega) (ws.set (aC l (i:Int)).f2.toNat (aC l (i:Int)).f4) (by rw [List.length_set];exact hw) ⟨fun j hj hQ=>?_,fun j j' hj hj' hQ hQ' he=>?_,fun v hv h=>?_⟩) (fun o eh_=>?_)
    rotate_right 1
    ·obtain ⟨e,h⟩:=eh_
     refine ⟨o,aZ ?_,h⟩
     simp only [yV,if_pos (show (i:Int) < (l.length:Int) by omega),if_pos (show 0≤(i:Int)∧(i:Int) < (M.length:Int) by omega),if_pos c,if_pos (show 0≤(aC l (i:Int)).f2∧(aC l (i:Int)).f2 < (ws.length:Int) by omega),if_pos z,eP i (show i < 4611686018427387904 by omega)]
     exact e
    ·have kj:=(iZ l hT j (by omega) hQ.2).1
     rw [nH _ _ _ _ k0.1 kj.1 (by omega)]
     by_cases hji:j=i
     ·subst hji
      rw [if_pos rfl]
     ·have h1:=I.at_ j (by omega) hQ
      have h2:=(iZ l hT j (by omega) hQ.2).2.1
      rw [if_neg (fun e=>by rw [e] at h1;omega)]
      exact h1
    ·have key:∀ j,j < i→rQ l M j→(aC l (j:Int)).f2≠(aC l (i:Int)).f2:=fun j hj hQ e=>by
      have h1:=I.at_ j hj hQ
      have h2:=(iZ l hT j (by omega) hQ.2).2.1
      rw [e] at h1
      omega
     by_cases h1:j=i
     ·by_cases h2:j'=i
      ·omega
      ·subst h1
       exact absurd he.symm (key j' (by omega) hQ')
     ·by_cases h2:j'=i
      ·subst h2
       exact absurd he (key j (by omega) hQ)
      ·exact I.one j j' (by omega) (by omega) hQ hQ' he
    ·rw [nH _ _ _ _ k0.1 (by omega) (by omega)] at h
     by_cases e:(v:Int)=(aC l (i:Int)).f2
     ·exact ⟨i,by omega,⟨c.1,hq⟩,e.symm⟩
     ·rw [if_neg e] at h
      obtain ⟨j,h1,h2,h3⟩:=I.has v hv h
      exact ⟨j,by omega,h2,h3⟩
   ·refine ⟨none,aZ ?_,fun ws' e=>by cases e⟩
    simp only [yV,if_pos (show (i:Int) < (l.length:Int) by omega),if_pos (show 0≤(i:Int)∧(i:Int) < (M.length:Int) by omega),if_pos c,if_pos (show 0≤(aC l (i:Int)).f2∧(aC l (i:Int)).f2 < (ws.length:Int) by omega),if_neg z]
    exact bA _
  ·have hno:∀ j,j < i + 1→rQ l M j→j < i:=fun j hj hQ=>by
    rcases Nat.lt_succ_iff_lt_or_eq.1 hj with h|rfl
    ·exact h
    ·exact absurd ⟨hQ.1,by rw [tT];exact hQ.2⟩ c
   obtain ⟨o,e,h⟩:=ih (i + 1) (by omega) ws hw ⟨fun j hj hQ=>I.at_ j (hno j hj hQ) hQ,fun j j' hj hj' hQ hQ' he=>I.one j j' (hno j hj hQ) (hno j' hj' hQ') hQ hQ' he,fun v hv h=>by
    obtain ⟨j,h1,h2⟩:=I.has v hv h
    exact ⟨j,by omega,h2⟩⟩
   refine ⟨o,aZ ?_,h⟩
   simp only [yV,if_pos (show (i:Int) < (l.length:Int) by omega),if_pos (show 0≤(i:Int)∧(i:Int) < (M.length:Int) by omega),if_neg c,eP i (show i < 4611686018427387904 by omega)]
   exact e
def pH (l:List bL) (M:List Bool):Nat→Nat→Nat
 | 0,_=>0
 | i + 1,p=>pH l M i p + (if cL false M (i:Int)=true then (np (aC l (i:Int))).count (p:Int) else 0)
theorem aAD (l:List bL) (M:List Bool) (p:Nat):∀ i,pH l M i p≤3 * i:=by
 intro i
 induction i with
 | zero=>simp [pH]
 | succ i ih =>
  simp only [pH]
  have h1:=jG (aC l (i:Int))
  have h2:=List.count_le_length (a:=(p:Int)) (l:=np (aC l (i:Int)))
  split <;> omega
theorem aEN (n:Nat) (hn:n≤1048576) (ps:List Int) (hl:ps.length≤3) (hp:∀ p∈ps,0≤p∧p < (n:Int)):∀ d j,j + d=ps.length→∀ us:List Int,us.length=n→(∀ p:Nat,p < n→0≤rd us (p:Int)∧rd us (p:Int)≤4000000 + (j:Int)) →
  ∃ us',Ev (fun k=>snP k ps (j:Int) us) us'∧us'.length=n∧∀ p:Nat,p < n→rd us' (p:Int)=rd us (p:Int) + (((ps.drop j).count (p:Int):Nat):Int):=by
 intro d
 induction d with
 | zero =>
  intro j hj us hu hb
  refine ⟨us,aZ ?_,hu,fun p hp=>by rw [List.drop_of_length_le (by omega)];simp⟩
  simp only [snP,if_neg (show ¬ (j:Int) < (ps.length:Int) by omega)]
  exact bA _
 | succ d ih =>
  intro j hj us hu hb
  have hjl:j < ps.length:=by omega
  have hr:rd ps (j:Int)=ps[j]:=by rw [eO,dZ ps j _ hjl]
  obtain ⟨p0,p1⟩:=hp _ (List.getElem_mem hjl)
  obtain ⟨q,hq⟩:=Int.eq_ofNat_of_zero_le p0
  have hbq:=hb q (by omega)
  have hw:wrap64 (rd us ps[j] + 1)=rd us ps[j] + 1:=by rw [hq];exact jR (by omega) (by omega)
  obtain ⟨us',e,h1,h2⟩:=ih (j + 1) (by omega) (us.set ps[j].toNat (rd us ps[j] + 1)) (by rw [List.length_set];exact hu) (fun p hp=>by
   rw [nH us _ _ _ p0 (by omega) (by omega)]
   have:=hb p hp
   split
   ·rename_i e
    rw [hq]
    omega
   ·omega)
  refine ⟨us',aZ ?_,h1,fun p hp=>?_⟩
  ·simp only [snP,if_pos (show (j:Int) < (ps.length:Int) by omega),hr,if_pos (show 0≤(j:Int)∧(0≤ps[j]∧ps[j] < (us.length:Int)) by omega),hw,eP j (show j < 4611686018427387904 by omega)]
   exact e
  ·rw [h2 p hp,nH us _ _ _ p0 (by omega) (by omega),List.drop_eq_getElem_cons hjl,List.count_cons]
   by_cases e:(p:Int)=ps[j]
   ·rw [if_pos e,if_pos (by simp [e]),e]
    push_cast
    omega
   ·rw [if_neg e,if_neg (by simpa using fun h=>e h.symm)]
    push_cast
    omega
structure snV (l:List bL) (M H:List Bool) (ws us:List Int) (i:Nat):Prop where
 us:∀ p:Nat,p < l.length→rd us (p:Int)=((pH l M i p:Nat):Int)
 var:∀ j,j < i→cL false M (j:Int)=true→(aC l (j:Int)).f0=1→rd ws (aC l (j:Int)).f2=(aC l (j:Int)).f1
 out:∀ j,j < i→cL false M (j:Int)=true→cL false H (j:Int)=true→wH (aC l (j:Int)).f0=true
theorem aEO (l:List bL) (hT:fN l=true) (hn:l.length≤1048576) (M H:List Bool) (hM:M.length=l.length) (hH:H.length=l.length) (ws:List Int) (hw:ws.length=8):∀ d i,i + d=l.length→∀ us:List Int,us.length=l.length→snV l M H ws us i→∃ o,Ev (fun k=>sS k l M H ws (i:Int) us) o∧∀ us',o=some us'→us'.length=l.length∧snV l M H ws us' l.length:=by
 intro d
 induction d with
 | zero =>
  intro i hi us hu I
  obtain rfl:i=l.length:=by omega
  refine ⟨some us,aZ ?_,fun us' e=>by cases e;exact ⟨hu,I⟩⟩
  simp only [sS,if_neg (show ¬ (l.length:Int) < (l.length:Int) by omega)]
  exact bA _
 | succ d ih =>
  intro i hi us hu I
  have hi':i < l.length:=by omega
  cases hm:cL false M (i:Int) with
  | false =>
   refine Exists.elim (ih (i + 1) (by omega) us hu ⟨fun p hp=>by rw [I.us p hp];simp [pH,hm],fun j hj hm1 hm2=>?_,fun j hj hm1 hm2=>?_⟩) (fun o eh_=>?_)
   rotate_right 1
   ·obtain ⟨e,h⟩:=eh_
    refine ⟨o,aZ ?_,h⟩
    simp only [sS,if_pos (show (i:Int) < (l.length:Int) by omega),if_pos (show 0≤(i:Int)∧((i:Int) < (M.length:Int)∧(i:Int) < (H.length:Int)) by omega),hm,Bool.false_eq_true,if_false,eP i (show i < 4611686018427387904 by omega)]
    exact e
   ·rcases Nat.lt_succ_iff_lt_or_eq.1 hj with h|rfl
    ·exact I.var j h hm1 hm2
    ·rw [hm] at hm1;cases hm1
   ·rcases Nat.lt_succ_iff_lt_or_eq.1 hj with h|rfl
    ·exact I.out j h hm1 hm2
    ·rw [hm] at hm1;cases hm1
  | true =>
   have hv:(aC l (i:Int)).f0=1→0≤(aC l (i:Int)).f2∧(aC l (i:Int)).f2 < (ws.length:Int):=fun h=>by have:=lK l hT i hi' h;omega
   by_cases c:((aC l (i:Int)).f0=1∧rd ws (aC l (i:Int)).f2≠(aC l (i:Int)).f1)∨(cL false H (i:Int)=true∧wH (aC l (i:Int)).f0=false)
   ·refine ⟨none,aZ ?_,fun us' e=>by cases e⟩
    simp only [sS,if_pos (show (i:Int) < (l.length:Int) by omega),if_pos (show 0≤(i:Int)∧((i:Int) < (M.length:Int)∧(i:Int) < (H.length:Int)) by omega),hm,if_true,if_pos hv,if_pos c]
    exact bA _
   ·have hpp:=dD l hT i hi'
    obtain ⟨us1,e1,h1,h2⟩:=aEN l.length hn (np (aC l (i:Int))) (jG _) (fun p hp=>by have:=hpp p hp;omega) _ 0 (by rw [Nat.zero_add]) us hu (fun p hp=>by rw [I.us p hp];have:=aAD l M p i;omega)
    refine Exists.elim (ih (i + 1) (by omega) us1 h1 ⟨fun p hp=>by rw [h2 p hp,I.us p hp,List.drop_zero];simp [pH,hm],fun j hj hm1 hm2=>?_,fun j hj hm1 hm2=>?_⟩) (fun o eh_=>?_)
    rotate_right 1
    ·obtain ⟨e,h⟩:=eh_
     refine ⟨o,aZ ?_,h⟩
     simp only [sS,if_pos (show (i:Int) < (l.length:Int) by omega),if_pos (show 0≤(i:Int)∧((i:Int) < (M.length:Int)∧(i:Int) < (H.length:Int)) by omega),hm,if_true,if_pos hv,if_neg c,eP i (show i < 4611686018427387904 by omega)]
     exact bC (f:=fun k ps=>(snP k ps 0 us).bind fun us'=>sS k l M H ws ((i + 1:Nat):Int) us') (nQ _) (bC (f:=fun k us'=>sS k l M H ws ((i + 1:Nat):Int) us') e1 e)
    ·rcases Nat.lt_succ_iff_lt_or_eq.1 hj with h|rfl
     ·exact I.var j h hm1 hm2
     ·exact Classical.byContradiction fun h=>c (Or.inl ⟨hm2,h⟩)
    ·rcases Nat.lt_succ_iff_lt_or_eq.1 hj with h|rfl
     ·exact I.out j h hm1 hm2
     ·exact Classical.byContradiction fun h=>c (Or.inr ⟨hm2,by simpa using h⟩)
theorem aEM (l:List bL) (hn:l.length≤1048576) (M H:List Bool) (hM:M.length=l.length) (hH:H.length=l.length) (us:List Int) (hu:us.length=l.length):∀ d i,i + d=l.length→∃ b,Ev (fun k=>uF k l M H us (i:Int)) b∧(b=true→∀ j,i≤j→j < l.length→cL false M (j:Int)=true→cL false H (j:Int)=true→rd us (j:Int)≤1):=by
 intro d
 induction d with
 | zero =>
  intro i hi
  refine ⟨true,aZ ?_,fun _ j h1 h2=>by omega⟩
  simp only [uF,if_neg (show ¬ (i:Int) < (l.length:Int) by omega)]
  exact bA _
 | succ d ih =>
  intro i hi
  obtain ⟨b,e,h⟩:=ih (i + 1) (by omega)
  by_cases c:cL false M (i:Int)=true∧(cL false H (i:Int)=true∧1 < rd us (i:Int))
  ·refine ⟨false,aZ ?_,fun h=>by cases h⟩
   simp only [uF,if_pos (show (i:Int) < (l.length:Int) by omega),if_pos (show 0≤(i:Int)∧((i:Int) < (M.length:Int)∧((i:Int) < (H.length:Int)∧(i:Int) < (us.length:Int))) by omega),if_pos c]
   exact bA _
  ·refine ⟨b,aZ ?_,fun hb j h1 h2 hm hh=>?_⟩
   ·simp only [uF,if_pos (show (i:Int) < (l.length:Int) by omega),if_pos (show 0≤(i:Int)∧((i:Int) < (M.length:Int)∧((i:Int) < (H.length:Int)∧(i:Int) < (us.length:Int))) by omega),if_neg c,eP i (show i < 4611686018427387904 by omega)]
    exact e
   ·rcases Nat.lt_or_ge i j with h3|h3
    ·exact h hb j (by omega) h2 hm hh
    ·obtain rfl:j=i:=by omega
     exact Classical.byContradiction fun h4=>c ⟨hm,hh,by omega⟩
abbrev hG (l:List bL):List Bool:=pF l l.length (oM l.length)
abbrev gE (l:List bL):List Bool:=oJ l l.length
structure lT (l:List bL):Prop where
 tm:fN l=true
 root:(aC l ((l.length:Int) - 1)).f1=1
 ws:∃ ws:List Int,ws.length=8∧snI l (hG l) l.length ws∧∀ j,j < l.length→cL false (hG l) (j:Int)=true→(aC l (j:Int)).f0=1→rd ws (aC l (j:Int)).f2=(aC l (j:Int)).f1
 out:∀ j,j < l.length→cL false (hG l) (j:Int)=true→cL false (gE l) (j:Int)=true→wH (aC l (j:Int)).f0=true
 use:∀ j,j < l.length→cL false (hG l) (j:Int)=true→cL false (gE l) (j:Int)=true→pH l (hG l) l.length j≤1
theorem vI (l:List bL) (hn:l.length≤1048576):∃ b,Ev (fun k=>cI.f k l) b∧(b=true→lT l):=by
 unfold cI.f
 cases hT:fN l with
 | false =>
  refine ⟨false,bC (a:=false) (f:=fun k t=>if t=true then _ else some false) (by rw [← hT];exact nT l hn) ?_,fun h=>by cases h⟩
  simp only [Bool.false_eq_true,if_false]
  exact bA _
 | true =>
  have hpos:=fF hT
  have hl80:l.length≤80:=by
   have h:=hT
   unfold fN at h
   rw [Bool.and_eq_true] at h
   have:=of_decide_eq_true h.1
   omega
  have hw:wrap64 ((l.length:Int) - 1)=(l.length:Int) - 1:=jR (by omega) (by omega)
  have key:∃ b,Ev (fun k=>if 0≤wrap64 ((l.length:Int) - 1)∧wrap64 ((l.length:Int) - 1) < (l.length:Int) then (if (aC l (wrap64 ((l.length:Int) - 1))).f1=1 then (cT.f k l).bind fun fr=>if 0 < fr.length then some false else (bH.f k l).bind fun is=>(bM.f k l).bind fun hs=>zS k l is hs else some false) else none) b∧(b=true→lT l):=by
   simp only [hw,if_pos (show 0≤(l.length:Int) - 1∧(l.length:Int) - 1 < (l.length:Int) by omega)]
   by_cases hr:(aC l ((l.length:Int) - 1)).f1=1
   case neg =>
    refine ⟨false,?_,fun h=>by cases h⟩
    simp only [if_neg hr]
    exact bA _
   simp only [if_pos hr]
   obtain ⟨fr,ef⟩:=aAM l hT hn
   by_cases hf:0 < fr.length
   ·refine ⟨false,bC (f:=fun k fr=>if 0 < fr.length then some false else (bH.f k l).bind fun is=>(bM.f k l).bind fun hs=>zS k l is hs) ef ?_,fun h=>by cases h⟩
    simp only [if_pos hf]
    exact bA _
   have hM:(hG l).length=l.length:=by rw [mH,gK]
   have hH:(gE l).length=l.length:=iB l l.length
   obtain ⟨o,ew,hw2⟩:=aEP l hT hn (hG l) hM l.length 0 (by omega) (List.replicate 8 0) rfl ⟨fun j hj=>by omega,fun j j' hj=>by omega,fun v hv h=>by
    rw [eO,List.getD_eq_getElem?_getD,List.getElem?_replicate,if_pos hv] at h
    exact absurd rfl h⟩
   have kR:∃ b,Ev (fun k=>zS k l (hG l) (gE l)) b∧(b=true→lT l):=by
    unfold zS
    cases o with
    | none =>
     refine ⟨false,bC (f:=fun k o=>match o with|none=>some false|some ws=>if l.length < 17592186044416 then (sS k l (hG l) (gE l) ws 0 (List.replicate l.length 0)).bind fun o=>match o with|none=>some false|some us=>uF k l (hG l) (gE l) us 0 else none) ew (bA _),fun h=>by cases h⟩
    | some ws =>
     obtain ⟨hw8,I⟩:=hw2 ws rfl
     obtain ⟨o2,eu,hu2⟩:=aEO l hT hn (hG l) (gE l) hM hH ws hw8 l.length 0 (by omega) (List.replicate l.length 0) (by simp) ⟨fun p hp=>by
      rw [eO,List.getD_eq_getElem?_getD,List.getElem?_replicate,if_pos hp]
      rfl,fun j hj=>by omega,fun j hj=>by omega⟩
     cases o2 with
     | none =>
      refine ⟨false,bC (f:=fun k o=>match o with|none=>some false|some ws=>if l.length < 17592186044416 then (sS k l (hG l) (gE l) ws 0 (List.replicate l.length 0)).bind fun o=>match o with|none=>some false|some us=>uF k l (hG l) (gE l) us 0 else none) ew ?_,fun h=>by cases h⟩
      simp only [if_pos (show l.length < 17592186044416 by omega)]
      exact bC (f:=fun k o=>match o with|none=>some false|some us=>uF k l (hG l) (gE l) us 0) eu (bA _)
     | some us =>
      obtain ⟨hul,V⟩:=hu2 us rfl
      obtain ⟨b,eh,hb⟩:=aEM l hn (hG l) (gE l) hM hH us hul l.length 0 (by omega)
      refine ⟨b,bC (f:=fun k o=>match o with|none=>some false|some ws=>if l.length < 17592186044416 then (sS k l (hG l) (gE l) ws 0 (List.replicate l.length 0)).bind fun o=>match o with|none=>some false|some us=>uF k l (hG l) (gE l) us 0 else none) ew ?_,fun h=>⟨hT,hr,⟨ws,hw8,I,fun j hj=>V.var j hj⟩,fun j hj=>V.out j hj,fun j hj h1 h2=>by
       have h3:=hb h j (by omega) hj h1 h2
       rw [V.us j hj] at h3
       omega⟩⟩
      simp only [if_pos (show l.length < 17592186044416 by omega)]
      exact bC (f:=fun k o=>match o with|none=>some false|some us=>uF k l (hG l) (gE l) us 0) eu eh
   obtain ⟨b,eb,hb⟩:=kR
   refine ⟨b,bC (f:=fun k fr=>if 0 < fr.length then some false else (bH.f k l).bind fun is=>(bM.f k l).bind fun hs=>zS k l is hs) ef ?_,hb⟩
   simp only [if_neg hf]
   exact bC (f:=fun k is=>(bM.f k l).bind fun hs=>zS k l is hs) (tV l hT hn) (bC (f:=fun k hs=>zS k l (hG l) hs) (uU l hT hn) eb)
  obtain ⟨b,e,h⟩:=key
  refine ⟨b,bC (a:=true) (f:=fun k t=>if t=true then _ else some false) (by rw [← hT];exact nT l hn) ?_,h⟩
  simp only [if_true]
  exact e
def pK (q:List eS) (t:Nat):Nat→Nat→Nat→List Int→List Int
 | 0,_,_,xs=>xs
 | d + 1,i,a,xs=>pK q t d (i + 1) (a - (aV q (i:Int)).f2.toNat) (xs.set (aV q (i:Int)).f1.toNat (((t / 2 ^ (a - (aV q (i:Int)).f2.toNat):Nat):Int) % (2:Int) ^ (aV q (i:Int)).f2.toNat))
theorem rG (q:List eS) (hw:∀ j:Nat,j < q.length→1≤(aV q (j:Int)).f2∧(aV q (j:Int)).f2≤8):∀ d i,i + d≤q.length→0≤lY q d i:=by
 intro d
 induction d with
 | zero=>intro i _;exact Int.le_refl _
 | succ d ih =>
  intro i hi
  have:=ih (i + 1) (by omega)
  have h:=hw i (by omega)
  simp only [lY]
  omega
theorem aGK (q:List eS) (l:List bL) (n:Int) (rs:List Int) (r:Int × ByteArray × Bool) (hq:q.length≤1048576) (hw:∀ j:Nat,j < q.length→1≤(aV q (j:Int)).f2∧(aV q (j:Int)).f2≤8) (hv:∀ j:Nat,j < q.length→0≤(aV q (j:Int)).f1∧(aV q (j:Int)).f1≤7) (t:Nat) (ht:t≤1048576) :
  ∀ d i,i + d=q.length→∀ (a:Nat) (xs:List Int),a≤12→lY q d i≤(a:Int)→xs.length=8 →
   Ev (fun k=>(iU.f k l (pK q t d i a xs) (wrap64 ((l.length:Int) - 1))).bind fun t117=>(if rs.length < 140737488355328 then (bE.l0 k q l n (rs ++ [(wrap64 (48 + t117)) % 256]) (pK q t d i a xs) (wrap64 ((t:Int) + 1))) else (none))) r →
   Ev (fun k=>bE.l1 k q l n rs xs (t:Int) (a:Int) (i:Int)) r:=by
 intro d
 induction d with
 | zero =>
  intro i hi a xs _ _ _ e
  refine aZ ?_
  simp only [bE.l1,if_neg (show ¬ (i:Int) < (q.length:Int) by omega)]
  exact e
 | succ d ih =>
  intro i hi a xs ha hs hx e
  have h1:=hw i (by omega)
  have h2:=hv i (by omega)
  have h3:=rG q hw d (i + 1) (by omega)
  simp only [lY] at hs
  obtain ⟨w,hw2⟩:=Int.eq_ofNat_of_zero_le (show 0≤(aV q (i:Int)).f2 by omega)
  have ea:wrap64 ((a:Int) - (aV q (i:Int)).f2)=((a - (aV q (i:Int)).f2.toNat:Nat):Int):=by unfold wrap64;omega
  have hz:∀ j:Nat,(2:Int) ^ j≠0:=fun j=>by
   have:(0:Int) < 2 ^ j:=Int.pow_pos (by decide)
   omega
  have hp:∀ j:Nat,j≤60→Ev (fun k=>aH.f k (j:Int)) ((2:Int) ^ j):=fun j hj=>jT j (fun k hk=>jU j hj k hk)
  have hd:wrap64 (Int.tdiv (t:Int) ((2:Int) ^ (a - w)))=((t / 2 ^ (a - w):Nat):Int):=by
   have e2:(t:Int) / (2:Int) ^ (a - w)=((t / 2 ^ (a - w):Nat):Int):=by push_cast;rfl
   have hle:t / 2 ^ (a - w)≤t:=Nat.div_le_self _ _
   rw [Int.tdiv_eq_ediv_of_nonneg (by omega),e2]
   generalize t / 2 ^ (a - w)=z at hle
   unfold wrap64
   omega
  refine aZ ?_
  simp only [bE.l1,if_pos (show (i:Int) < (q.length:Int) by omega),if_pos (show 0≤(i:Int) by omega),ea,if_pos h2.1,if_pos (show (aV q (i:Int)).f1 < (xs.length:Int) by omega),eP i (show i < 4611686018427387904 by omega)]
  simp only [pK,hw2,Int.toNat_natCast] at e ⊢
  refine bC (a:=(2:Int) ^ (a - w)) (f:=fun k t113=>if t113=0 then (none) else ((aH.f k (w:Int)).bind fun t115=>(if t115=0 then (none) else (bE.l1 k q l n rs (xs.set (aV q (i:Int)).f1.toNat (Int.tmod (wrap64 (Int.tdiv (t:Int) t113)) t115)) (t:Int) ((a - w:Nat):Int) ((i + 1:Nat):Int))))) (hp (a - w) (by omega)) ?_
  simp only [if_neg (hz (a - w)),hd]
  refine bC (a:=(2:Int) ^ w) (f:=fun k t115=>if t115=0 then (none) else (bE.l1 k q l n rs (xs.set (aV q (i:Int)).f1.toNat (Int.tmod (((t / 2 ^ (a - w):Nat):Int)) t115)) (t:Int) ((a - w:Nat):Int) ((i + 1:Nat):Int))) (hp w (by omega)) ?_
  simp only [if_neg (hz w)]
  rw [Int.tmod_eq_emod_of_nonneg (Int.natCast_nonneg _)]
  exact ih (i + 1) (by omega) (a - w) _ (by omega) (by omega) (by rw [List.length_set];exact hx) e
theorem uH (q:List eS) (t:Nat):∀ d i a (xs:List Int),(pK q t d i a xs).length=xs.length:=by
 intro d
 induction d with
 | zero=>intro i a xs;rfl
 | succ d ih=>intro i a xs;simp only [pK];rw [ih,List.length_set]
def zN (q:List eS) (n:Nat):Nat→List Int
 | 0=>List.replicate 8 0
 | t + 1=>pK q t q.length 0 n (zN q n t)
theorem kZ (q:List eS) (n:Nat):∀ t,(zN q n t).length=8:=by
 intro t
 induction t with
 | zero=>rfl
 | succ t ih=>simp only [zN];rw [uH,ih]
noncomputable def mU (q:List eS) (l:List bL) (n t:Nat):Int:=rd (gD l (zN q n (t + 1)) l.length) ((l.length:Int) - 1)
noncomputable def wQ (q:List eS) (l:List bL) (n:Nat):List Int:=(List.range (2 ^ n)).map fun t=>48 + mU q l n t
theorem uD (q:List eS) (l:List bL) (n:Nat):(wQ q l n).length=2 ^ n:=by simp [wQ]
def lE (w v:Int):Prop:=0≤v∧v < (2:Int) ^ w.toNat
theorem gJ (w:Int):lE w 0:=⟨Int.le_refl _,Int.pow_pos (by decide)⟩
theorem uV (n:Nat) (x:Int):lE (n:Int) (x % (2:Int) ^ n):=by
 have:(0:Int) < 2 ^ n:=Int.pow_pos (by decide)
 exact ⟨Int.emod_nonneg _ (by omega),Int.emod_lt_of_pos _ this⟩
theorem uW (w:Int) (h:1≤w) (v:Int) (hv:v=0∨v=1):lE w v:=by
 obtain ⟨n,rfl⟩:=Int.eq_ofNat_of_zero_le (show 0≤w by omega)
 have h2:(2:Int) ^ 1≤2 ^ n:=by
  have:(2:Nat) ^ 1≤2 ^ n:=Nat.pow_le_pow_right (by decide) (by omega)
  exact_mod_cast this
 unfold lE
 rw [Int.toNat_natCast]
 omega
theorem tD (n:Nat) (h8:n≤8) (a b:Int) (ha:lE (n:Int) a) (hb:lE (n:Int) b):lE (n:Int) (Go.bits .and .i64 a b)∧lE (n:Int) (Go.bits .or .i64 a b)∧lE (n:Int) (Go.bits .xor .i64 a b):=by
 obtain ⟨x,rfl⟩:=Int.eq_ofNat_of_zero_le ha.1
 obtain ⟨y,rfl⟩:=Int.eq_ofNat_of_zero_le hb.1
 have hx:x < 2 ^ n:=by have:=ha.2;rw [Int.toNat_natCast] at this;exact_mod_cast this
 have hy:y < 2 ^ n:=by have:=hb.2;rw [Int.toNat_natCast] at this;exact_mod_cast this
 have hN:2 ^ n≤256:=Nat.le_trans (Nat.pow_le_pow_right (by decide) h8) (by decide)
 have mk:∀ z:Nat,z < 2 ^ n→lE (n:Int) (z:Int):=fun z hz=>⟨Int.natCast_nonneg _,by rw [Int.toNat_natCast];exact_mod_cast hz⟩
 refine ⟨?_,?_,?_⟩
 ·rw [zW x y (by omega) (by omega)]
  exact mk _ (Nat.and_lt_two_pow _ hy)
 ·rw [qS x y (by omega) (by omega)]
  exact mk _ (Nat.or_lt_two_pow hx hy)
 ·have e:Go.bits .xor .i64 (x:Int) (y:Int)=((x ^^^ y:Nat):Int):=by
   unfold Go.bits
   show IntKind.i64.wrap (((BitVec.ofInt 64 (x:Int)) ^^^ (BitVec.ofInt 64 (y:Int))).toNat:Int)=_
   rw [BitVec.toNat_xor,BitVec.ofInt_natCast,BitVec.ofInt_natCast,BitVec.toNat_ofNat,BitVec.toNat_ofNat,Nat.mod_eq_of_lt (by omega),Nat.mod_eq_of_lt (by omega)]
   exact jI _ (Int.natCast_nonneg _) (by have:=Nat.xor_lt_two_pow hx hy;omega)
  rw [e]
  exact mk _ (Nat.xor_lt_two_pow hx hy)
theorem oL (ps:List Int):∀ (ms:List Bool) (j:Nat),ms.getD j false=true→(wT ms ps).getD j false=true:=by
 induction ps with
 | nil=>intro ms j h;exact h
 | cons p ps ih=>intro ms j h;exact ih _ j (vD ms j _ h)
theorem aAV (ps:List Int):∀ (ms:List Bool) (p:Int),p∈ps→p.toNat < ms.length→(wT ms ps).getD p.toNat false=true:=by
 induction ps with
 | nil=>intro ms p h;cases h
 | cons q ps ih =>
  intro ms p h hp
  rcases List.mem_cons.1 h with rfl|h
  ·refine oL ps _ _ ?_
   rw [List.getD_eq_getElem?_getD,List.getElem?_set,if_pos rfl,if_pos hp]
   rfl
  ·exact ih _ p h (by rw [List.length_set];exact hp)
theorem aAU (ps:List Int):∀ (ms:List Bool) (j:Nat),(∀ p∈ps,p.toNat≠j)→(wT ms ps).getD j false=ms.getD j false:=by
 induction ps with
 | nil=>intro ms j _;rfl
 | cons q ps ih =>
  intro ms j h
  show (wT (ms.set q.toNat true) ps).getD j false=_
  rw [ih _ j (fun p hp=>h p (List.mem_cons_of_mem _ hp)),List.getD_eq_getElem?_getD,List.getElem?_set,if_neg (h q (List.mem_cons_self ..)),← List.getD_eq_getElem?_getD]
theorem mT (l:List bL):∀ d (ms:List Bool) (j:Nat),ms.getD j false=true→(pF l d ms).getD j false=true:=by
 intro d
 induction d with
 | zero=>intro ms j h;exact h
 | succ d ih =>
  intro ms j h
  unfold pF
  refine ih _ j ?_
  split
  ·exact oL _ _ _ h
  ·exact h
theorem yT (l:List bL) (hT:fN l=true):∀ d (ms:List Bool) (j:Nat),d≤j→d≤l.length→(pF l d ms).getD j false=ms.getD j false:=by
 intro d
 induction d with
 | zero=>intro ms j _ _;rfl
 | succ d ih =>
  intro ms j h hd
  unfold pF
  rw [ih _ j (by omega) (by omega)]
  split
  ·exact aAU _ _ _ (fun p hp=>by have:=dD l hT d (by omega) p hp;omega)
  ·rfl
theorem pW (l:List bL) (hT:fN l=true):∀ d (ms:List Bool) (i:Nat),i < d→d≤l.length→ms.length=l.length→(pF l d ms).getD i false=true→∀ p∈np (aC l (i:Int)),(pF l d ms).getD p.toNat false=true:=by
 intro d
 induction d with
 | zero=>intro ms i h;omega
 | succ d ih =>
  intro ms i h hd hm hi p hp
  unfold pF at hi ⊢
  rcases Nat.lt_or_ge i d with h1|h1
  ·exact ih _ i h1 (by omega) (by split <;> simp [mE,hm]) hi p hp
  ·obtain rfl:i=d:=by omega
   rw [yT l hT i _ i (Nat.le_refl _) (by omega)] at hi
   have hpi:=dD l hT i (by omega)
   have hc:cL false ms (i:Int)=true:=by
    rw [fK]
    split at hi
    ·next h2=>rw [fK] at h2;exact h2
    ·exact hi
   rw [if_pos hc]
   exact mT l i _ _ (aAV _ _ p hp (by have:=hpi p hp;omega))
theorem xS (q:List eS):∀ d i (ws ws':List Int),rX q d i ws=some ws'→∀ K:Int,0≤K→rd ws K≠0→rd ws' K=rd ws K:=by
 intro d
 induction d with
 | zero=>intro i ws ws' h K _ _;cases h;rfl
 | succ d ih =>
  intro i ws ws' h K hK hn
  unfold rX at h
  split at h
  ·next hc =>
   obtain ⟨h1,h2,h3⟩:=hc
   have hne:(aV q (i:Int)).f1.toNat≠K.toNat:=fun e=>hn (by rw [← show (aV q (i:Int)).f1=K from by omega];exact h3)
   have e:rd (ws.set (aV q (i:Int)).f1.toNat (aV q (i:Int)).f2) K=rd ws K:=by
    unfold rd
    rw [List.getD_eq_getElem?_getD,List.getElem?_set,if_neg hne,← List.getD_eq_getElem?_getD]
   rw [ih (i + 1) _ _ h K hK (by rw [e];exact hn),e]
  ·cases h
theorem xR (q:List eS):∀ d i (ws ws':List Int),ws.length=8→rX q d i ws=some ws'→∀ j:Nat,i≤j→j < i + d→(0≤(aV q (j:Int)).f1∧(aV q (j:Int)).f1≤7)∧(1≤(aV q (j:Int)).f2∧(aV q (j:Int)).f2≤8)∧rd ws' (aV q (j:Int)).f1=(aV q (j:Int)).f2:=by
 intro d
 induction d with
 | zero=>intro i ws ws' _ _ j h1 h2;omega
 | succ d ih =>
  intro i ws ws' hl h j h1 h2
  unfold rX at h
  split at h
  ·next hc =>
   rcases Nat.lt_or_ge i j with h3|h3
   ·exact ih (i + 1) _ _ (by rw [List.length_set];exact hl) h j (by omega) (by omega)
   ·obtain rfl:j=i:=by omega
    obtain ⟨g1,g2,g3⟩:=hc
    have e:rd (ws.set (aV q (j:Int)).f1.toNat (aV q (j:Int)).f2) (aV q (j:Int)).f1=(aV q (j:Int)).f2:=by
     unfold rd
     rw [List.getD_eq_getElem?_getD,List.getElem?_set,if_pos rfl,if_pos (by omega)]
     rfl
    exact ⟨g1,g2,by rw [xS q d (j + 1) _ _ h _ g1.1 (by rw [e];omega),e]⟩
  ·cases h
def kA (ws xs:List Int):Prop:=∀ K:Nat,K < 8→lE (rd ws (K:Int)) (rd xs (K:Int))
theorem oI (ws:List Int):kA ws (List.replicate 8 0):=fun K hK=>by
 rw [eO (List.replicate 8 0),dZ _ K _ (by simpa using hK),List.getElem_replicate]
 exact gJ _
theorem aET (q:List eS) (ws:List Int) (t:Nat):∀ d i,(∀ j:Nat,i≤j→j < i + d→(0≤(aV q (j:Int)).f1∧(aV q (j:Int)).f1≤7)∧(1≤(aV q (j:Int)).f2∧(aV q (j:Int)).f2≤8)∧rd ws (aV q (j:Int)).f1=(aV q (j:Int)).f2) →
  ∀ a (xs:List Int),xs.length=8→kA ws xs→kA ws (pK q t d i a xs):=by
 intro d
 induction d with
 | zero=>intro i _ a xs _ h;exact h
 | succ d ih =>
  intro i hj a xs hx h
  simp only [pK]
  refine ih (i + 1) (fun j h1 h2=>hj j (by omega) (by omega)) _ _ (by rw [List.length_set];exact hx) ?_
  obtain ⟨g1,g2,g3⟩:=hj i (Nat.le_refl _) (by omega)
  intro K hK
  rw [eO (xs.set _ _),List.getD_eq_getElem?_getD,List.getElem?_set]
  by_cases e:(aV q (i:Int)).f1.toNat=K
  ·rw [if_pos e,if_pos (by omega),show ((K:Nat):Int)=(aV q (i:Int)).f1 from by omega,g3]
   obtain ⟨w,hw⟩:=Int.eq_ofNat_of_zero_le (show 0≤(aV q (i:Int)).f2 by omega)
   rw [hw,Int.toNat_natCast]
   exact uV w _
  ·rw [if_neg e,← List.getD_eq_getElem?_getD,← eO]
   exact h K hK
theorem aFA (q:List eS) (ws:List Int) (n:Nat) (hj:∀ j:Nat,j < q.length→(0≤(aV q (j:Int)).f1∧(aV q (j:Int)).f1≤7)∧(1≤(aV q (j:Int)).f2∧(aV q (j:Int)).f2≤8)∧rd ws (aV q (j:Int)).f1=(aV q (j:Int)).f2):∀ t,kA ws (zN q n t):=by
 intro t
 induction t with
 | zero=>exact oI ws
 | succ t ih=>exact aET q ws t q.length 0 (fun j _ h=>hj j (by omega)) n _ (kZ q n t) ih
theorem aDD (l:List bL) (ms:List Bool) (ws:List Int):∀ d i,vZ l ms ws d i=true→∀ j:Nat,i≤j→j < i + d→ms.getD j false=true→(aC l (j:Int)).f0=1→rd ws (aC l (j:Int)).f2=(aC l (j:Int)).f1:=by
 intro d
 induction d with
 | zero=>intro i _ j h1 h2;omega
 | succ d ih =>
  intro i h j h1 h2 hm ho
  simp only [vZ,Bool.and_eq_true] at h
  rcases Nat.lt_or_ge i j with h3|h3
  ·exact ih (i + 1) h.2.2 j (by omega) (by omega) hm ho
  ·obtain rfl:j=i:=by omega
   have h4:=h.2.1
   rw [if_pos (show cL false ms (j:Int)=true by rw [fK];exact hm),if_pos ho] at h4
   exact beq_iff_eq.1 h4
abbrev uR:List bL:=[⟨1,1,0,0,0,0⟩,⟨20,1,0,0,1,0⟩]
theorem pR:Ev (fun k=>cI.f k uR) true:=⟨200,fun k hk=>by
 obtain ⟨m,rfl⟩:∃ m,k=m + 200:=⟨k - 200,by omega⟩
 clear hk
 show cI.f (m + 200) uR=some true
 kernel_rfl⟩
theorem uB {l:List bL} (hn:l.length≤1048576) (h:Ev (fun k=>cI.f k l) true):lT l:=by
 obtain ⟨b,e,h2⟩:=vI l hn
 exact h2 (mC e h)
theorem aAY (b:List Int) (hb:b.length≤1099511627776):∃ h,Ev (fun k=>dI.f k b) (b,0,h):=by
 have H:∀ d (i:Nat) h,i + d=b.length→∃ h',Ev (fun k=>dI.l0 k b h (i:Int)) (b,0,h'):=by
  intro d
  induction d with
  | zero =>
   intro i h hi
   refine ⟨h,aZ ?_⟩
   simp only [dI.l0,if_neg (show ¬ (i:Int) < (b.length:Int) by omega)]
   exact bA _
  | succ d ih =>
   intro i h hi
   by_cases h4:(i:Int) < 4000
   ·obtain ⟨h',e⟩:=ih (i + 1) (Go.bits .and .i64 (wrap64 ((wrap64 ((wrap64 (h * 131)) + (wrap64 (rd b (i:Int))))) + 7)) 1073741823) (by omega)
    refine ⟨h',aZ ?_⟩
    simp only [dI.l0,if_pos (show (i:Int) < (b.length:Int) by omega),if_pos h4,if_pos (show 0≤(i:Int) by omega),eP i (show i < 4611686018427387904 by omega)]
    exact e
   ·refine ⟨h,aZ ?_⟩
    simp only [dI.l0,if_pos (show (i:Int) < (b.length:Int) by omega),if_neg h4]
    exact bA _
 exact H b.length 0 _ (by omega)
theorem aBF (b:List Int) (hb:b.length≤1099511627776):∃ t,Ev (fun k=>fJ.f k b) t∧Ev (fun k=>cI.f k t) true∧t.length≤80∧qB t≤8:=by
 obtain ⟨h0,en⟩:=aAY b hb
 obtain ⟨l',a,nx',bs',p,q,em,hp,hl,hq,hb0,hb1,hn0,hn1⟩:=aAT b 4 (by decide) [] [] 0 8 0 h0 (vK hb) (by decide) (by decide) (by decide) (by decide) ⟨by simp,by simp⟩ (by simp) (by simp [mG])
 have hq0:qB ([]:List bL)=0:=rfl
 rw [hq0] at hq
 have hl2:l'.length≤1048576:=by simp [mG] at hl;omega
 have key:∃ t p2 q2,Ev (fun k=>fA.f k b 0 h0 8) (t,p2,q2)∧Ev (fun k=>cI.f k t) true∧t.length≤80∧qB t≤8:=by
  unfold fA.f
  by_cases c:(l'.length:Int) > 80
  ·refine ⟨uR,p,q,bC em ?_,pR,by decide,by decide⟩
   simp only [if_pos c]
   exact bA _
  obtain ⟨t,et,_⟩:=vI l' hl2
  cases t with
  | true =>
   refine ⟨l',p,q,bC em ?_,et,by omega,by omega⟩
   simp only [if_neg c]
   refine bC et ?_
   simp only [if_true]
   exact bA _
  | false =>
   refine ⟨uR,p,q,bC em ?_,pR,by decide,by decide⟩
   simp only [if_neg c]
   refine bC et ?_
   simp only [Bool.false_eq_true,if_false]
   exact bA _
 obtain ⟨t,p2,q2,e2,h1,h2,h3⟩:=key
 refine ⟨t,?_,h1,h2,h3⟩
 unfold fJ.f
 exact bC en (bC e2 (bA _))
def mv (φ:Int→Int) (x:bL):bL:=⟨x.f0,x.f1,x.f2,if 0 < (np x).length then φ x.f3 else x.f3,if 1 < (np x).length then φ x.f4 else x.f4,if 2 < (np x).length then φ x.f5 else x.f5⟩
theorem gZ (x:bL):(np x=[x.f3]∧(x.f0=2∨x.f0=17∨qu x.f0=true))∨(np x=[x.f3,x.f4]∧3≤x.f0∧x.f0≤16)∨(np x=[x.f3,x.f4,x.f5]∧x.f0=18)∨(np x=[]∧¬ (x.f0=2∨x.f0=17∨qu x.f0=true)∧¬ (3≤x.f0∧x.f0≤16)∧¬ x.f0=18):=by
 unfold np parts
 by_cases h1:x.f0=2∨x.f0=17∨qu x.f0=true
 ·exact Or.inl ⟨if_pos h1,h1⟩
 by_cases h2:3≤x.f0∧x.f0≤16
 ·exact Or.inr (Or.inl ⟨by rw [if_neg h1,if_pos h2],h2⟩)
 by_cases h3:x.f0=18
 ·exact Or.inr (Or.inr (Or.inl ⟨by rw [if_neg h1,if_neg h2,if_pos h3],h3⟩))
 ·exact Or.inr (Or.inr (Or.inr ⟨by rw [if_neg h1,if_neg h2,if_neg h3],h1,h2,h3⟩))
theorem mS (φ:Int→Int) (x:bL):np (mv φ x)=(np x).map φ:=by
 rcases gZ x with ⟨h,c⟩ | ⟨h,c⟩ | ⟨h,c⟩ | ⟨h,c1,c2,c3⟩
 ·rw [h]
  show parts x.f0 _ _ _=_
  unfold parts
  rw [if_pos c]
  simp [mv,h]
 ·have c1:¬ (x.f0=2∨x.f0=17∨qu x.f0=true):=by unfold qu;simp only [decide_eq_true_eq];omega
  rw [h]
  show parts x.f0 _ _ _=_
  unfold parts
  rw [if_neg c1,if_pos c]
  simp [mv,h]
 ·have c1:¬ (x.f0=2∨x.f0=17∨qu x.f0=true):=by unfold qu;simp only [decide_eq_true_eq];omega
  rw [h]
  show parts x.f0 _ _ _=_
  unfold parts
  rw [if_neg c1,if_neg (by omega),if_pos c]
  simp [mv,h]
 ·rw [h]
  show parts x.f0 _ _ _=_
  unfold parts
  rw [if_neg c1,if_neg c2,if_neg c3]
  rfl
theorem aAW (φ:Int→Int) (x:bL) (h:gO x.f0 x.f2 x.f3 x.f4 x.f5=true):gO (mv φ x).f0 (mv φ x).f2 (mv φ x).f3 (mv φ x).f4 (mv φ x).f5=true:=by
 rcases gZ x with ⟨e,c⟩ | ⟨e,c⟩ | ⟨e,c⟩ | ⟨e,c1,c2,c3⟩
 ·simp only [mv,e,List.length_singleton,if_pos (show 0 < 1 by decide),if_neg (show ¬ 1 < 1 by decide),if_neg (show ¬ 2 < 1 by decide)]
  unfold gO at h ⊢
  have c0:¬ (x.f0=0∨x.f0=1):=by unfold qu at c;simp only [decide_eq_true_eq] at c;omega
  rw [if_neg c0] at h ⊢
  rcases c with c|c|c
  ·rw [if_neg (show ¬ x.f0=17 by omega)] at h ⊢
   have cq:¬ qu x.f0=true:=by unfold qu;simp only [decide_eq_true_eq];omega
   rw [if_neg cq,if_pos c] at h ⊢
   exact h
  ·rw [if_pos c] at h ⊢
   exact h
  ·have c17:¬ x.f0=17:=by unfold qu at c;simp only [decide_eq_true_eq] at c;omega
   rw [if_neg c17,if_pos c] at h ⊢
   exact h
 ·simp only [mv,e,List.length_cons,List.length_nil,if_pos (show 0 < 0 + 1 + 1 by decide),if_pos (show 1 < 0 + 1 + 1 by decide),if_neg (show ¬ 2 < 0 + 1 + 1 by decide)]
  unfold gO at h ⊢
  have cq:¬ qu x.f0=true:=by unfold qu;simp only [decide_eq_true_eq];omega
  rw [if_neg (show ¬ (x.f0=0∨x.f0=1) by omega),if_neg (show ¬ x.f0=17 by omega),if_neg cq,if_neg (show ¬ x.f0=2 by omega),if_pos c] at h ⊢
  exact h
 ·simp only [mv,e,List.length_cons,List.length_nil,if_pos (show 0 < 0 + 1 + 1 + 1 by decide),if_pos (show 1 < 0 + 1 + 1 + 1 by decide),if_pos (show 2 < 0 + 1 + 1 + 1 by decide)]
  unfold gO at h ⊢
  have cq:¬ qu x.f0=true:=by unfold qu;simp only [decide_eq_true_eq];omega
  rw [if_neg (show ¬ (x.f0=0∨x.f0=1) by omega),if_neg (show ¬ x.f0=17 by omega),if_neg cq,if_neg (show ¬ x.f0=2 by omega),if_neg (show ¬ (3≤x.f0∧x.f0≤16) by omega),if_pos c] at h ⊢
  exact h
 ·simp only [mv,e,List.length_nil,if_neg (show ¬ 0 < 0 by decide),if_neg (show ¬ 1 < 0 by decide),if_neg (show ¬ 2 < 0 by decide)]
  exact h
theorem aFZ (o w kk b b' x0 x1 x2:Int) (h:qu o=true∨(0≤o∧o≤18)→(0≤o∧o≤18)∨b=b') (ho:0≤o∧o≤20):mL o w kk b x0 x1 x2=mL o w kk b' x0 x1 x2:=by
 unfold mL
 by_cases h18:o≤18
 ·repeat' split
  all_goals first|rfl|omega
 ·rcases h (Or.inl (by unfold qu;simp only [decide_eq_true_eq];omega)) with h1|rfl
  ·omega
  ·rfl
theorem vE (l l':List bL) (x:bL) (φ:Int→Int) (h:nG l x=true) (hφ:∀ p∈np x,(0≤φ p∧φ p≤(l'.length:Int) - 1)∧(aC l' (φ p)).f1=(aC l p).f1):nG l' (mv φ x)=true:=by
 unfold nG at h ⊢
 simp only [Bool.and_eq_true] at h ⊢
 obtain ⟨hW,hO,hU,hP,hop⟩:=h
 have ho:=of_decide_eq_true hO
 have hw:∀ q:Nat,w3 l' (np (mv φ x)) q=w3 l (np x) q:=fun q=>by
  unfold w3
  rw [mS,List.length_map]
  by_cases hq:q < (np x).length
  ·rw [if_pos hq,if_pos hq,eO,eO,dZ _ q _ (by rw [List.length_map];exact hq),dZ _ q _ hq,List.getElem_map]
   exact (hφ _ (List.getElem_mem hq)).2
  ·rw [if_neg hq,if_neg hq]
 refine ⟨hW,hO,aAW φ x hU,?_,?_⟩
 ·rw [mS]
  unfold vG
  rw [List.all_eq_true]
  intro p hp
  obtain ⟨q,hq,rfl⟩:=List.mem_map.1 hp
  exact decide_eq_true (hφ q hq).1
 ·rw [hw 0,hw 1,hw 2]
  show mL x.f0 x.f1 x.f2 (mv φ x).f4 _ _ _=true
  rw [aFZ x.f0 x.f1 x.f2 (mv φ x).f4 x.f4 _ _ _ (fun _=>?_) ho]
  ·exact hop
  ·by_cases h18:x.f0≤18
   ·exact Or.inl ⟨ho.1,h18⟩
   ·right
    have hq:qu x.f0=true:=by unfold qu;simp only [decide_eq_true_eq];omega
    rcases gZ x with ⟨e,c⟩ | ⟨e,c⟩ | ⟨e,c⟩ | ⟨e,c1,c2,c3⟩
    ·simp only [mv,e,List.length_singleton,if_neg (show ¬ 1 < 1 by decide)]
    ·omega
    ·omega
    ·exact absurd (Or.inr (Or.inr hq)) c1
theorem yH (x:bL):(0 < (np x).length→x.f3∈np x)∧(1 < (np x).length→x.f4∈np x)∧(2 < (np x).length→x.f5∈np x):=by
 rcases gZ x with ⟨e,c⟩ | ⟨e,c⟩ | ⟨e,c⟩ | ⟨e,c1,c2,c3⟩ <;> rw [e] <;> simp
theorem qZ (l:List bL) (y:bL) (j:Nat) (h:j < l.length):aC (l ++ [y]) (j:Int)=aC l (j:Int):=by
 rw [jF,jF,List.getD_eq_getElem?_getD,List.getD_eq_getElem?_getD,List.getElem?_append_left h]
theorem qY (l:List bL) (y:bL):aC (l ++ [y]) (l.length:Int)=y:=by
 rw [jF,List.getD_eq_getElem?_getD,List.getElem?_append_right (Nat.le_refl _),Nat.sub_self]
 rfl
theorem yR (l:List Int) (y:Int) (p:Int) (h0:0≤p) (h:p < (l.length:Int)):rd (l ++ [y]) p=rd l p:=by
 obtain ⟨j,rfl⟩:=Int.eq_ofNat_of_zero_le h0
 rw [eO,eO,List.getD_eq_getElem?_getD,List.getD_eq_getElem?_getD,List.getElem?_append_left (by omega)]
theorem rA (l:List Int) (y:Int):rd (l ++ [y]) (l.length:Int)=y:=by
 rw [eO,List.getD_eq_getElem?_getD,List.getElem?_append_right (Nat.le_refl _),Nat.sub_self]
 rfl
theorem aBM (l:List bL):∀ d i,(∀ j,i≤j→j < i + d→nG (l.take j) (aC l (j:Int))=true)→tmA l d i=true:=by
 intro d
 induction d with
 | zero=>intro i _;rfl
 | succ d ih =>
  intro i h
  simp only [tmA,Bool.and_eq_true]
  exact ⟨h i (Nat.le_refl _) (by omega),ih (i + 1) (fun j h1 h2=>h j (by omega) (by omega))⟩
theorem iF {l:List bL} (hT:fN l=true):l.length≤80:=by
 unfold fN at hT
 rw [Bool.and_eq_true] at hT
 have:=of_decide_eq_true hT.1
 omega
theorem zD {l:List bL} (h1:1≤l.length) (h8:l.length≤80) (h:∀ j,j < l.length→nG (l.take j) (aC l (j:Int))=true):fN l=true:=by
 unfold fN
 rw [Bool.and_eq_true]
 exact ⟨decide_eq_true (by omega),aBM l l.length 0 (fun j _ h2=>h j (by omega))⟩
theorem aAX {out:List bL} {y:bL} (h:∀ j,j < out.length→nG (out.take j) (aC out (j:Int))=true) (hy:nG out y=true):∀ j,j < (out ++ [y]).length→nG ((out ++ [y]).take j) (aC (out ++ [y]) (j:Int))=true:=by
 intro j hj
 rw [List.length_append,List.length_singleton] at hj
 rcases Nat.lt_succ_iff_lt_or_eq.1 hj with h1|rfl
 ·rw [List.take_append_of_le_length (by omega),qZ _ _ _ h1]
  exact h j h1
 ·rw [qY,List.take_append_of_le_length (Nat.le_refl _),List.take_length]
  exact hy
theorem yE (φ ψ:Int→Int) (x:bL) (h:∀ p∈np x,φ p=ψ p):mv φ x=mv ψ x:=by
 rcases gZ x with ⟨e,_⟩ | ⟨e,_⟩ | ⟨e,_⟩ | ⟨e,_⟩ <;> rw [e] at h <;> simp at h <;> simp [mv,e,h]
structure prV (l:List bL) (i:Nat) (out:List bL) (pl:List Int):Prop where
 plen:pl.length=i
 le:out.length≤i
 at_:∀ p:Nat,p < i→cL false (hG l) (p:Int)=true→(0≤rd pl (p:Int)∧rd pl (p:Int) < (out.length:Int))∧aC out (rd pl (p:Int))=mv (rd pl) (aC l (p:Int))
 nd:∀ j,j < out.length→nG (out.take j) (aC out (j:Int))=true
 of:∀ j:Nat,j < out.length→∃ p:Nat,p < i∧cL false (hG l) (p:Int)=true∧rd pl (p:Int)=(j:Int)∧aC out (j:Int)=mv (rd pl) (aC l (p:Int))
 last:∀ p:Nat,p + 1=i→cL false (hG l) (p:Int)=true→rd pl (p:Int)=(out.length:Int) - 1
theorem iL (l:List bL) (hT:fN l=true) (i:Nat) (hi:i < l.length) (h:cL false (hG l) (i:Int)=true):∀ p∈np (aC l (i:Int)),cL false (hG l) p=true:=by
 intro p hp
 have hb:=dD l hT i hi p hp
 rw [fK] at h
 have:=pW l hT l.length (oM l.length) i hi (Nat.le_refl _) (gK _) h p hp
 unfold cL
 exact this
theorem iV (l:List bL) (h:1≤l.length):cL false (hG l) ((l.length - 1:Nat):Int)=true:=by
 rw [fK]
 refine mT l _ _ _ ?_
 unfold oM
 rw [List.getD_eq_getElem?_getD,List.getElem?_set,if_pos rfl,if_pos (by rw [List.length_replicate];omega)]
 rfl
theorem aEE (l:List bL) (hT:fN l=true):∀ d i,i + d=l.length→∀ (out:List bL) (pl:List Int),prV l i out pl→∃ r pl',Ev (fun k=>wM k l (hG l) out pl (i:Int)) r∧prV l l.length r pl':=by
 have hl8:=iF hT
 have hM:(hG l).length=l.length:=by rw [mH,gK]
 intro d
 induction d with
 | zero =>
  intro i hi out pl V
  obtain rfl:i=l.length:=by omega
  refine ⟨out,pl,aZ ?_,V⟩
  simp only [wM,if_neg (show ¬ (l.length:Int) < (l.length:Int) by omega)]
  exact bA _
 | succ d ih =>
  intro i hi out pl V
  have hpl:=V.plen
  have hle:=V.le
  have g1:(0≤(i:Int)∧(i:Int) < ((hG l).length:Int))∧(pl.length < 17592186044416∧out.length < 2932031007402):=by omega
  have hat:∀ p:Nat,p < i→rd (pl ++ [(out.length:Int)]) (p:Int)=rd pl (p:Int):=fun p hp=>yR _ _ _ (by omega) (by omega)
  have same:∀ p:Nat,p < i→mv (rd pl) (aC l (p:Int))=mv (rd (pl ++ [(out.length:Int)])) (aC l (p:Int)):=fun p hp=>yE _ _ _ (fun x hx=>by
   have hb:=dD l hT p (by omega) x hx
   obtain ⟨y,rfl⟩:=Int.eq_ofNat_of_zero_le hb.1
   exact (hat y (by omega)).symm)
  by_cases hm:cL false (hG l) (i:Int)=true
  ·have hpp:=dD l hT i (by omega)
   have hmp:=iL l hT i (by omega) hm
   have hpr:prI (pl ++ [(out.length:Int)]) (aC l (i:Int)) (np (aC l (i:Int))).length:=by
    have hmem:=yH (aC l (i:Int))
    have hlen:(((pl ++ [(out.length:Int)]).length:Nat):Int)=(i:Int) + 1:=by rw [List.length_append,List.length_singleton];omega
    refine ⟨fun h=>?_,fun h=>?_,fun h=>?_⟩
    ·have:=hpp _ (hmem.1 h);omega
    ·have:=hpp _ (hmem.2.1 h);omega
    ·have:=hpp _ (hmem.2.2 h);omega
   have hy:nG out (mv (rd (pl ++ [(out.length:Int)])) (aC l (i:Int)))=true:=by
    refine vE (l.take i) out _ _ (sK l hT i (by omega)) (fun p hp=>?_)
    have hb:=hpp p hp
    obtain ⟨q,rfl⟩:=Int.eq_ofNat_of_zero_le hb.1
    have:=V.at_ q (by omega) (hmp _ hp)
    rw [hat q (by omega),rB l i q (by omega)]
    exact ⟨by omega,by rw [this.2];rfl⟩
   have V2:prV l (i + 1) (out ++ [mv (rd (pl ++ [(out.length:Int)])) (aC l (i:Int))]) (pl ++ [(out.length:Int)]):=by
    refine ⟨by simp [hpl],by simp;omega,fun p hp hmk=>?_,aAX V.nd hy,fun j hj=>?_,fun p hp hmk=>?_⟩
    ·rcases Nat.lt_succ_iff_lt_or_eq.1 hp with h|rfl
     ·have:=V.at_ p h hmk
      rw [hat p h]
      obtain ⟨q,hq⟩:=Int.eq_ofNat_of_zero_le this.1.1
      rw [hq] at this ⊢
      rw [qZ _ _ _ (by omega)]
      exact ⟨by simp;omega,this.2.trans (same p h)⟩
     ·rw [show rd (pl ++ [(out.length:Int)]) (p:Int)=(out.length:Int) from by rw [← hpl];exact rA _ _,qY]
      exact ⟨by simp;omega,rfl⟩
    ·rw [List.length_append,List.length_singleton] at hj
     rcases Nat.lt_succ_iff_lt_or_eq.1 hj with h|rfl
     ·obtain ⟨p,h1,h2,h3,h4⟩:=V.of j h
      rw [qZ _ _ _ h,h4]
      exact ⟨p,by omega,h2,by rw [hat p h1];exact h3,same p h1⟩
     ·rw [qY]
      exact ⟨i,by omega,hm,by rw [← hpl];exact rA _ _,rfl⟩
    ·obtain rfl:p=i:=by omega
     rw [show rd (pl ++ [(out.length:Int)]) (p:Int)=(out.length:Int) from by rw [← hpl];exact rA _ _]
     simp
   obtain ⟨r,pl',e,h⟩:=ih (i + 1) (by omega) _ _ V2
   refine ⟨r,pl',aZ ?_,h⟩
   simp only [wM,if_pos (show (i:Int) < (l.length:Int) by omega),if_pos g1,if_pos hm,eP i (show i < 4611686018427387904 by omega)]
   refine bC (a:=np (aC l (i:Int))) (f:=fun k ps=>if prI (pl ++ [(out.length:Int)]) (aC l (i:Int)) ps.length then wM k l (hG l) (out ++ [prN (pl ++ [(out.length:Int)]) (aC l (i:Int)) ps.length]) (pl ++ [(out.length:Int)]) ((i + 1:Nat):Int) else none) (nQ _) ?_
   simp only [if_pos hpr]
   exact e
  ·have V2:prV l (i + 1) out (pl ++ [(out.length:Int)]):=by
    refine ⟨by simp [hpl],by omega,fun p hp hmk=>?_,V.nd,fun j hj=>?_,fun p hp hmk=>?_⟩
    ·rcases Nat.lt_succ_iff_lt_or_eq.1 hp with h|rfl
     ·rw [hat p h]
      exact ⟨(V.at_ p h hmk).1,(V.at_ p h hmk).2.trans (same p h)⟩
     ·exact absurd hmk hm
    ·obtain ⟨p,h1,h2,h3,h4⟩:=V.of j hj
     exact ⟨p,by omega,h2,by rw [hat p h1];exact h3,by rw [h4];exact same p h1⟩
    ·obtain rfl:p=i:=by omega
     exact absurd hmk hm
   obtain ⟨r,pl',e,h⟩:=ih (i + 1) (by omega) _ _ V2
   refine ⟨r,pl',aZ ?_,h⟩
   simp only [wM,if_pos (show (i:Int) < (l.length:Int) by omega),if_pos g1,if_neg hm,eP i (show i < 4611686018427387904 by omega)]
   exact e
theorem mF (l:List bL) (hT:fN l=true):∃ r pl,Ev (fun k=>eZ.f k l) r∧fN r=true∧prV l l.length r pl:=by
 have hl8:=iF hT
 have hp:=fF hT
 obtain ⟨r,pl',e,V⟩:=aEE l hT l.length 0 (by omega) [] [] ⟨rfl,Nat.le_refl _,fun p hp=>by omega,fun j hj=>by simp at hj,fun j hj=>by simp at hj,fun p hp=>by omega⟩
 have hat:=(V.at_ (l.length - 1) (by omega) (iV l hp)).1
 have hle:=V.le
 refine ⟨r,pl',?_,zD (by omega) (by omega) V.nd,V⟩
 unfold eZ.f
 refine bC (a:=true) (f:=fun k t=>if t=true then (bH.f k l).bind fun is=>wM k l is [] [] 0 else some []) (by rw [← hT];exact nT l (by omega)) ?_
 simp only [if_true]
 exact bC (f:=fun k is=>wM k l is [] [] 0) (tV l hT (by omega)) e
theorem yN (l:List bL) (hT:fN l=true):∃ r,Ev (fun k=>eZ.f k l) r∧fN r=true∧(aC r ((r.length:Int) - 1)).f1=(aC l ((l.length:Int) - 1)).f1 ∧
  ∀ j,j < r.length→∃ p:Nat,p < l.length∧cL false (hG l) (p:Int)=true∧(aC r (j:Int)).f0=(aC l (p:Int)).f0∧(aC r (j:Int)).f1=(aC l (p:Int)).f1∧(aC r (j:Int)).f2=(aC l (p:Int)).f2:=by
 obtain ⟨r,pl,e,h,V⟩:=mF l hT
 have hp:=fF hT
 have hat:=V.at_ (l.length - 1) (by omega) (iV l hp)
 rw [V.last (l.length - 1) (by omega) (iV l hp)] at hat
 refine ⟨r,e,h,?_,fun j hj=>?_⟩
 ·rw [hat.2]
  show (aC l ((l.length - 1:Nat):Int)).f1=_
  congr 2
  omega
 ·obtain ⟨p,h1,h2,_,h4⟩:=V.of j hj
  rw [h4]
  exact ⟨p,h1,h2,rfl,rfl,rfl⟩
theorem vR {α:Type} (x:Option α):(x.bind fun t=>some t)=x:=by cases x <;> rfl
theorem wm (w:Nat) (h8:w≤8) (v:Int) (h0:0≤v) (h1:v < (2:Int) ^ w):lE (w:Int) v:=⟨h0,by rw [Int.toNat_natCast];exact h1⟩
theorem sN (W:Int) (h1:1≤W) (t:Bool) {v:Int} (h:cZ.f t=some v):lE W v:=by
 refine uW W h1 v ?_
 cases t
 ·exact Or.inl (Option.some.inj h).symm
 ·exact Or.inr (Option.some.inj h).symm
theorem pA (n:Nat) (h1:1≤n) (h8:n≤8) (a b:Int) (I:Option Int) (v:Int) (hI:0≤a→a < (2:Int) ^ n→0≤b→b < (2:Int) ^ n→I=some v→lE (n:Int) v) (h:((cR.f (n:Int) a b).bind fun t=>if t=true then I else some 0)=some v):lE (n:Int) v:=by
 rw [tB n h1 h8] at h
 cases ho:(iA n a && iA n b) with
 | false =>
  rw [ho] at h
  obtain rfl:=Option.some.inj h
  exact gJ _
 | true =>
  rw [ho] at h
  simp only [Bool.and_eq_true,iA,decide_eq_true_eq] at ho
  exact hI ho.1.1 ho.1.2 ho.2.1 ho.2.2 h
theorem sP (n:Nat) (h8:n≤8) (x v:Int) (h:((dO.f (n:Int) x).bind fun t=>some t)=some v):lE (n:Int) v:=by
 rw [pO n h8] at h
 obtain rfl:=Option.some.inj h
 exact uV n x
theorem zJ (o:Int) (n:Nat) (h1:1≤n) (h8:n≤8) (a b v:Int) (ha:lE (n:Int) a) (hb:lE (n:Int) b) (h:eF.f o (n:Int) a b=some v):lE (n:Int) v:=by
 have hp:=gG n h8
 have hm:=nC n h8
 unfold eF.f at h
 split at h
 ·obtain rfl:=Option.some.inj h
  exact (tD n h8 a b ha hb).1
 split at h
 ·obtain rfl:=Option.some.inj h
  exact (tD n h8 a b ha hb).2.1
 split at h
 ·obtain rfl:=Option.some.inj h
  exact (tD n h8 a b ha hb).2.2
 split at h
 ·rw [vR] at h
  exact pA n h1 h8 a b _ v (fun _ _ _ _ h=>sP n h8 _ v h) h
 split at h
 ·rw [vR] at h
  exact pA n h1 h8 a b _ v (fun _ _ _ _ h=>sP n h8 _ v h) h
 split at h
 ·rw [vR] at h
  exact pA n h1 h8 a b _ v (fun _ _ _ _ h=>sP n h8 _ v h) h
 split at h
 ·rw [vR] at h
  refine pA n h1 h8 a b _ v (fun a0 a1 b0 b1 h=>?_) h
  rw [uO n h8,if_pos (show (0:Int)≤(n:Int) by omega),hm] at h
  split at h
  ·obtain rfl:=Option.some.inj h
   exact wm n h8 _ (by omega) (by omega)
  ·obtain rfl:=Option.some.inj h
   have h2:Int.tdiv a b≤a:=Int.tdiv_le_self _ a0
   have h3:0≤Int.tdiv a b:=Int.tdiv_nonneg a0 b0
   rw [show wrap64 (Int.tdiv a b)=Int.tdiv a b from by unfold wrap64;omega]
   exact wm n h8 _ h3 (by omega)
 split at h
 ·rw [vR] at h
  refine pA n h1 h8 a b _ v (fun a0 a1 b0 b1 h=>?_) h
  split at h
  ·obtain rfl:=Option.some.inj h
   exact wm n h8 _ a0 a1
  ·obtain rfl:=Option.some.inj h
   rw [Int.tmod_eq_emod_of_nonneg a0]
   have h2:0≤a % b:=Int.emod_nonneg _ (by assumption)
   have h3:a % b < b:=Int.emod_lt_of_pos _ (by omega)
   exact wm n h8 _ h2 (by omega)
 split at h
 ·rw [vR] at h
  refine pA n h1 h8 a b _ v (fun a0 a1 b0 b1 h=>?_) h
  split at h
  ·obtain rfl:=Option.some.inj h
   exact gJ _
  split at h
  ·exact sP n h8 _ v h
  ·cases h
 ·rw [vR] at h
  refine pA n h1 h8 a b _ v (fun a0 a1 b0 b1 h=>?_) h
  split at h
  ·obtain rfl:=Option.some.inj h
   exact gJ _
  ·obtain ⟨j,rfl⟩:=Int.eq_ofNat_of_zero_le b0
   obtain ⟨x,rfl⟩:=Int.eq_ofNat_of_zero_le a0
   have hj:j≤8:=by omega
   rw [uO j hj,if_pos (by omega),rE x j (by omega)] at h
   obtain rfl:=Option.some.inj h
   have hle:x / 2 ^ j≤x:=Nat.div_le_self _ _
   generalize x / 2 ^ j=z at hle
   exact wm n h8 _ (by omega) (by omega)
theorem aEY (n:Nat) (h1:1≤n) (h8:n≤8) (a v:Int) (h:iH.f (n:Int) a=some v):lE (n:Int) v:=by
 have hp:=gG n h8
 have hm:=nC n h8
 unfold iH.f at h
 rw [mN n h1 h8,uO n h8,if_pos (show (0:Int)≤(n:Int) by omega),hm] at h
 cases ho:iA n a with
 | false =>
  rw [ho] at h
  obtain rfl:=Option.some.inj h
  exact gJ _
 | true =>
  rw [ho] at h
  simp only [iA,decide_eq_true_eq] at ho
  obtain rfl:=Option.some.inj h
  rw [show wrap64 ((2:Int) ^ n - 1 - a)=(2:Int) ^ n - 1 - a from by unfold wrap64;omega]
  exact wm n h8 _ (by omega) (by omega)
theorem aBP (u:Int) (n:Nat) (h8:n≤8) (a low v:Int) (h:gI.f u a low (n:Int)=some v):lE (n:Int) v:=by
 unfold gI.f at h
 obtain ⟨t,_,h⟩:=Option.bind_eq_some_iff.1 h
 split at h
 ·obtain ⟨t,_,h⟩:=Option.bind_eq_some_iff.1 h
  split at h
  ·obtain ⟨t,_,h⟩:=Option.bind_eq_some_iff.1 h
   split at h
   ·split at h
    ·exact sP n h8 _ v h
    ·cases h
   ·obtain rfl:=Option.some.inj h
    exact gJ _
  ·obtain rfl:=Option.some.inj h
   exact gJ _
 ·obtain rfl:=Option.some.inj h
  exact gJ _
theorem aEZ (W w a b v:Int) (h1:1≤W) (h:gR.f w a b=some v):lE W v:=by
 unfold gR.f at h
 obtain ⟨t,_,h⟩:=Option.bind_eq_some_iff.1 h
 split at h
 ·rw [vR] at h
  exact sN W h1 _ h
 ·rw [vR] at h
  exact sN W h1 _ h
theorem rK (W w a b v:Int) (h1:1≤W) (h:eX.f w a b=some v):lE W v:=by
 unfold eX.f at h
 obtain ⟨t,_,h⟩:=Option.bind_eq_some_iff.1 h
 split at h
 ·obtain ⟨x,_,h⟩:=Option.bind_eq_some_iff.1 h
  obtain ⟨y,_,h⟩:=Option.bind_eq_some_iff.1 h
  rw [vR] at h
  exact sN W h1 _ h
 ·rw [vR] at h
  exact sN W h1 _ h
theorem xB (o W K A B C w a b c x0 x1 x2:Int) (hK : -9223372036854775808≤K∧K≤9223372036854775807) (hW:1≤W∧W≤8) (ho:0≤o∧o≤18∧o≠1) (hop:mL o W K B x0 x1 x2=true)
  (hj:o=16→w=x0∧(1≤x0∧x0≤8)∧(1≤x1∧x1≤8)) (ha:lE x0 a) (hb:lE x1 b) (hc:lE x2 c):lE W (vO o W K A B C w a b c):=by
 obtain ⟨K0,e⟩:=(nD o W K A B C w a b c hK).1
 have h:=e (K0 + 3) (by omega)
 clear e
 generalize vO o W K A B C w a b c=v at h ⊢
 dsimp only at h
 rw [apI] at h
 cases hg:apG W w a b c with
 | false =>
  rw [hg] at h
  simp only [bJ.j0,Bool.not_false,if_true] at h
  obtain rfl:=Option.some.inj h
  exact gJ _
 | true =>
  rw [hg] at h
  simp only [apG,Bool.and_eq_true,decide_eq_true_eq] at hg
  obtain ⟨n,rfl⟩:=Int.eq_ofNat_of_zero_le (show 0≤W by omega)
  have n1:1≤n:=by omega
  have n8:n≤8:=by omega
  simp only [bJ.j0,Bool.not_true,Bool.false_eq_true,if_false,jY,Option.bind_some,vR] at h
  unfold mL at hop
  by_cases h0:o=0
  ·rw [if_pos h0] at h hop
   obtain rfl:=Option.some.inj h
   rw [Int.toNat_natCast] at hop
   have:=of_decide_eq_true hop
   exact wm n n8 _ this.1 this.2
  rw [if_neg h0] at h hop
  rw [if_neg ho.2.2] at hop
  by_cases h2:o=2
  ·rw [if_pos h2] at h
   exact aEY n n1 n8 a v h
  rw [if_neg h2] at h hop
  by_cases h3:3≤o∧o≤12
  ·rw [if_pos (decide_eq_true h3)] at h
   rw [if_pos h3,Bool.and_eq_true] at hop
   have e0:=beq_iff_eq.1 hop.1
   have e1:=beq_iff_eq.1 hop.2
   rw [e0] at ha
   rw [e1] at hb
   exact zJ o n n1 n8 a b v ha hb h
  rw [if_neg (by simpa using h3)] at h
  rw [if_neg h3] at hop
  by_cases h13:o=13
  ·rw [if_pos h13] at h
   exact sN _ hW.1 _ h
  rw [if_neg h13] at h
  by_cases h14:o=14
  ·rw [if_pos h14] at h
   exact aEZ _ _ _ _ _ hW.1 h
  rw [if_neg h14] at h
  by_cases h15:o=15
  ·rw [if_pos h15] at h
   exact rK _ _ _ _ _ hW.1 h
  rw [if_neg h15] at h
  rw [if_neg (by omega)] at hop
  by_cases h16:o=16
  ·obtain ⟨rfl,hx0,hx1⟩:=hj h16
   rw [if_pos h16] at hop
   have hs:=beq_iff_eq.1 hop
   obtain ⟨u,rfl⟩:=Int.eq_ofNat_of_zero_le (show 0≤w by omega)
   obtain ⟨z,rfl⟩:=Int.eq_ofNat_of_zero_le (show 0≤x1 by omega)
   have hnz:n=u + z:=by unfold wrap64 at hs;omega
   subst hnz
   have hz8:z≤8:=by omega
   rw [if_pos h16,decide_eq_false (show ¬ ((u + z:Nat):Int) < (u:Int) by omega)] at h
   simp only [bJ.j1,Bool.false_eq_true,if_false,if_pos h16] at h
   rw [show wrap64 (((u + z:Nat):Int) - (u:Int))=(z:Int) from by unfold wrap64;omega,uO z hz8,if_pos (by omega)] at h
   obtain ⟨x,rfl⟩:=Int.eq_ofNat_of_zero_le ha.1
   obtain ⟨y,rfl⟩:=Int.eq_ofNat_of_zero_le hb.1
   have hxl:x < 2 ^ u:=by have:=ha.2;rw [Int.toNat_natCast] at this;exact_mod_cast this
   have hyl:y < 2 ^ z:=by have:=hb.2;rw [Int.toNat_natCast] at this;exact_mod_cast this
   have hz2:2 ^ z≤256:=Nat.le_trans (Nat.pow_le_pow_right (by decide) hz8) (by decide)
   have hu2:2 ^ u≤256:=Nat.le_trans (Nat.pow_le_pow_right (by decide) (show u≤8 by omega)) (by decide)
   have hm1:x * 2 ^ z + y < 2 ^ (u + z):=by
    rw [Nat.pow_add]
    have:=Nat.mul_le_mul_right (2 ^ z) (show x + 1≤2 ^ u from hxl)
    rw [Nat.add_mul,Nat.one_mul] at this
    omega
   have hm2:x * 2 ^ z≤256 * 256:=Nat.mul_le_mul (by omega) hz2
   rw [rD x z (by omega) (by omega)] at h
   obtain rfl:=Option.some.inj h
   rw [show wrap64 (((x * 2 ^ z:Nat):Int) + (y:Int))=((x * 2 ^ z + y:Nat):Int) from by
    generalize x * 2 ^ z=m at hm2
    unfold wrap64
    omega]
   exact wm _ n8 _ (Int.natCast_nonneg _) (by exact_mod_cast hm1)
  rw [if_neg h16] at h hop
  simp only [bJ.j1,Bool.false_eq_true,if_false,if_neg h16,vR] at h
  by_cases h17:o=17
  ·rw [if_pos h17] at h
   exact aBP _ n n8 _ _ _ h
  rw [if_neg h17] at h hop
  have h18:o=18:=by omega
  rw [if_pos h18] at h hop
  simp only [Bool.and_eq_true,beq_iff_eq] at hop
  by_cases hx:a=1
  ·rw [beq_iff_eq.2 hx] at h
   simp only [bJ.j2,if_true] at h
   obtain rfl:=Option.some.inj h
   rw [← hop.2.1]
   exact hb
  ·rw [beq_eq_false_iff_ne.2 hx] at h
   simp only [bJ.j2,Bool.false_eq_true,if_false,if_pos h18] at h
   obtain rfl:=Option.some.inj h
   rw [← hop.2.2]
   exact hc
theorem yG (l:List bL) (hT:fN l=true) (i:Nat) (hi:i < l.length):nG (l.take i) (aC l (i:Int))=true:=by
 unfold fN at hT
 rw [Bool.and_eq_true] at hT
 exact rI l l.length 0 hT.2 i (by omega) (by omega)
theorem jO (l:List bL) (i:Nat) (p:Int) (h0:0≤p) (h1:p < (i:Int)):aC (l.take i) p=aC l p:=by
 obtain ⟨j,rfl⟩:=Int.eq_ofNat_of_zero_le h0
 rw [jF,jF,List.getD_eq_getElem?_getD,List.getD_eq_getElem?_getD,List.getElem?_take_of_lt (by omega)]
theorem tO (l:List bL) (hT:fN l=true) (i:Nat) (hi:i < l.length):1≤(aC l (i:Int)).f1∧(aC l (i:Int)).f1≤8:=by
 have h:=yG l hT i hi
 unfold nG at h
 simp only [Bool.and_eq_true,decide_eq_true_eq] at h
 exact h.1
theorem aGL (l:List bL) (hT:fN l=true) (ws xs:List Int) (hx:xs.length=8) (ms:List Bool) (hp:∀ i:Nat,i < l.length→ms.getD i false=true→∀ p∈np (aC l (i:Int)),ms.getD p.toNat false=true)
  (hq:∀ j:Nat,j < l.length→qu (aC l (j:Int)).f0=false) (hK:∀ j:Nat,j < l.length → -9223372036854775808≤(aC l (j:Int)).f2∧(aC l (j:Int)).f2≤9223372036854775807)
  (hv:∀ j:Nat,j < l.length→ms.getD j false=true→(aC l (j:Int)).f0=1→rd ws (aC l (j:Int)).f2=(aC l (j:Int)).f1) (he:kA ws xs) :
  ∀ i:Nat,i < l.length→ms.getD i false=true→lE (aC l (i:Int)).f1 ((gD l xs l.length).getD i 0):=by
 intro i
 induction i using Nat.strongRecOn with|ind i ih =>
 intro hi hm
 rw [lS l xs i l.length hi]
 unfold tQ
 by_cases h1:(aC l (i:Int)).f0=1
 ·rw [if_pos h1,← hv i hi hm h1]
  have hk:=lK l hT i hi h1
  obtain ⟨K,hK2⟩:=Int.eq_ofNat_of_zero_le hk.1
  rw [hK2] at hk ⊢
  exact he K (by omega)
 ·rw [if_neg h1]
  have hnd:=yG l hT i hi
  unfold nG at hnd
  simp only [Bool.and_eq_true,decide_eq_true_eq] at hnd
  obtain ⟨hW,ho,_,hpo,hop⟩:=hnd
  have hpp:=dD l hT i hi
  have hqi:=hq i hi
  have hq2:(aC l (i:Int)).f0≠19∧(aC l (i:Int)).f0≠20:=by
   unfold qu at hqi
   have:=of_decide_eq_false hqi
   omega
  have part:∀ q:Nat,lE (w3 (l.take i) (np (aC l (i:Int))) q) (v3 (gD l xs i) (np (aC l (i:Int))) q):=fun q=>by
   unfold w3 v3
   by_cases h:q < (np (aC l (i:Int))).length
   ·rw [if_pos h,if_pos h]
    have hmem:rd (np (aC l (i:Int))) (q:Int)∈np (aC l (i:Int)):=by rw [eO,dZ _ q _ h];exact List.getElem_mem h
    have h2:=hpp _ hmem
    have h3:=hp i hi hm _ hmem
    rw [jO l i _ h2.1 (by omega)]
    obtain ⟨j,hj⟩:=Int.eq_ofNat_of_zero_le h2.1
    rw [hj] at h2 h3 ⊢
    rw [eO,← oZ l xs j l.length i (by omega) (by omega)]
    exact ih j (by omega) (by omega) (by simpa using h3)
   ·rw [if_neg h,if_neg h]
    exact gJ _
  refine xB _ _ _ _ _ _ _ _ _ _ _ _ _ (hK i hi) hW ⟨ho.1,by omega,h1⟩ hop (fun h16=>?_) (part 0) (part 1) (part 2)
  have hnp:np (aC l (i:Int))=[(aC l (i:Int)).f3,(aC l (i:Int)).f4]:=by
   unfold np parts
   rw [if_neg (by rw [hqi,h16];decide),if_pos (by omega)]
  rw [hnp] at hpp ⊢
  have p0:=hpp (aC l (i:Int)).f3 (by simp)
  have p1:=hpp (aC l (i:Int)).f4 (by simp)
  have e0:w3 (l.take i) [(aC l (i:Int)).f3,(aC l (i:Int)).f4] 0=(aC l (aC l (i:Int)).f3).f1:=by
   simp [w3,rd]
   rw [jO l i _ p0.1 (by omega)]
  have e1:w3 (l.take i) [(aC l (i:Int)).f3,(aC l (i:Int)).f4] 1=(aC l (aC l (i:Int)).f4).f1:=by
   simp [w3,rd]
   rw [jO l i _ p1.1 (by omega)]
  rw [e0,e1]
  refine ⟨by simp [oC,rd],?_,?_⟩
  ·obtain ⟨j,hj⟩:=Int.eq_ofNat_of_zero_le p0.1
   rw [hj] at p0 ⊢
   exact tO l hT j (by omega)
  ·obtain ⟨j,hj⟩:=Int.eq_ofNat_of_zero_le p1.1
   rw [hj] at p1 ⊢
   exact tO l hT j (by omega)
end Go.Proofs.Ythipjoioicmcnaa.Pure
