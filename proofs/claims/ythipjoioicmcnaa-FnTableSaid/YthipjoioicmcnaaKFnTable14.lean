-- texts of this session, merged by a program of it (wip/gen/pack.py)
import Derived.Test.YthipjoioicmcnaaKFnTable13
import Derived.Test.YthipjoioicmcnaaKFnTable4
import Derived.Test.YthipjoioicmcnaaKFnTable3
import Derived.Test.YthipjoioicmcnaaKFnTable2
import Derived.Test.YthipjoioicmcnaaKFnTable6
import Derived.Test.YthipjoioicmcnaaKFnTable7
import Derived.Test.YthipjoioicmcnaaKFnTable5
import Derived.Test.YthipjoioicmcnaaKFnTable11
import Derived.Test.YthipjoioicmcnaaKFnTable10
import Derived.Test.YthipjoioicmcnaaKFnTable9
set_option linter.unusedVariables false
set_option linter.unusedSimpArgs false
set_option maxHeartbeats 80000000
set_option maxRecDepth 100000
namespace Go.Proofs.Ythipjoioicmcnaa.Pure
open Go.RowKit Go.Proofs.Ythipjoioicmcnaa.G Go.Proofs.YthipjoioicmcnaaW.PrintWords Go.Proofs.YthipjoioicmcnaaW.PrintLast Go.Proofs.YthipjoioicmcnaaW.PrintMore
def mD (n:Int) (ps:List Int):Bool:=ps.all fun p=>decide (0≤p∧p≤n - 1)
def w3 (l:List bN) (ps:List Int) (q:Nat):Int:=if q < ps.length then (aC l (rd ps (q:Int))).f1 else 0
def lD (o w kk b x0 x1 x2:Int):Bool :=
 if o=0 then gQ w.toNat kk else if o=1 then decide (0≤kk∧kk≤7) else if o=2 then x0 == w else if 3≤o∧o≤12 then x0 == w && x1 == w else if 13≤o∧o≤15 then x0 == x1 && w == 1 else
 if o=16 then wrap64 (x0 + x1) == w else if o=17 then decide (0≤kk∧kk≤wrap64 (x0 - w)) else if o=18 then x0 == 1 && (x1 == w && x2 == w) else decide (0≤kk∧kk≤7) && (decide (1≤b∧b≤8) && (x0 == 1 && w == 1))
theorem ifB (x y z:Int) (t:Bool):(if x=y then t else false)=(x == y && t):=by
 by_cases h:x=y
 ·rw [if_pos h,beq_iff_eq.2 h,Bool.true_and]
 ·rw [if_neg h,beq_eq_false_iff_ne.2 h,Bool.false_and]
theorem opI (o w kk b x0 x1 x2:Int) (h1:1≤w) (h8:w≤8):rgS o w kk b x0 x1 x2=some (lD o w kk b x0 x1 x2):=by
 obtain ⟨n,rfl⟩:=Int.eq_ofNat_of_zero_le (show 0≤w by omega)
 unfold rgS lD
 simp only [eF.f,bU.f,eO,Option.bind_some,Int.toNat_natCast,kV n (by omega) (by omega),ifB _ _ 0]
 by_cases h0:o=0
 ·simp only [if_pos h0]
 simp only [if_neg h0]
 by_cases h1:o=1
 ·simp only [if_pos h1]
 simp only [if_neg h1]
 by_cases h2:o=2
 ·simp only [if_pos h2]
 simp only [if_neg h2]
 by_cases h3:3≤o∧o≤12
 ·simp only [decide_eq_true h3,if_true,if_pos h3]
 simp only [decide_eq_false h3,Bool.false_eq_true,if_false,if_neg h3]
 by_cases h4:13≤o∧o≤15
 ·simp only [decide_eq_true h4,if_true,if_pos h4]
 simp only [decide_eq_false h4,Bool.false_eq_true,if_false,if_neg h4]
 by_cases h5:o=16
 ·simp only [if_pos h5]
 simp only [if_neg h5]
 by_cases h6:o=17
 ·simp only [if_pos h6]
 simp only [if_neg h6]
 by_cases h7:o=18
 ·simp only [if_pos h7]
 simp only [if_neg h7]
 cases decide (0≤kk∧kk≤7) <;> cases decide (1≤b∧b≤8) <;> simp
theorem aAB (k:Nat) (l:List bN) (hl:l.length≤1048576) (o a b c:Int):qG (k + 4) l (parts o a b c) 0 0 0 0=some (if mD (l.length:Int) (parts o a b c)=true then some (w3 l (parts o a b c) 0,w3 l (parts o a b c) 1,w3 l (parts o a b c) 2) else none):=by
 have hw:wrap64 ((l.length:Int) - 1)=(l.length:Int) - 1:=iB (by omega) (by omega)
 have h01:wrap64 1=1:=by unfold wrap64;omega
 have h12:wrap64 2=2:=by unfold wrap64;omega
 have h23:wrap64 3=3:=by unfold wrap64;omega
 have key:∀ p:Int,(0≤p∧p≤(l.length:Int) - 1)→(0≤p∧p < (l.length:Int)):=fun p h=>by omega
 have len:parts o a b c=[]∨parts o a b c=[a]∨parts o a b c=[a,b]∨parts o a b c=[a,b,c]:=by
  unfold parts
  repeat' split
  all_goals simp
 rcases len with e|e|e|e <;> rw [e]
 ·simp [qG,mD,w3]
 ·by_cases h1:0≤a∧a≤(l.length:Int) - 1
  ·simp [qG,mD,w3,eO,rd,hw,h01,h1,key a h1]
  ·simp [qG,mD,w3,eO,rd,hw,h01,h1]
 ·by_cases h1:0≤a∧a≤(l.length:Int) - 1
  ·by_cases h2:0≤b∧b≤(l.length:Int) - 1
   ·simp [qG,mD,w3,eO,rd,hw,h01,h12,h1,h2,key a h1,key b h2]
   ·simp [qG,mD,w3,eO,rd,hw,h01,h12,h1,h2,key a h1]
  ·simp [qG,mD,w3,eO,rd,hw,h01,h1]
 ·by_cases h1:0≤a∧a≤(l.length:Int) - 1
  ·by_cases h2:0≤b∧b≤(l.length:Int) - 1
   ·by_cases h3:0≤c∧c≤(l.length:Int) - 1
    ·simp [qG,mD,w3,eO,rd,hw,h01,h12,h23,h1,h2,h3,key a h1,key b h2,key c h3]
    ·simp [qG,mD,w3,eO,rd,hw,h01,h12,h23,h1,h2,h3,key a h1,key b h2]
   ·simp [qG,mD,w3,eO,rd,hw,h01,h12,h1,h2,key a h1]
  ·simp [qG,mD,w3,eO,rd,hw,h01,h1]
def lN (l:List bN) (x:bN):Bool:=decide (1≤x.f1∧x.f1≤8) && (decide (0≤x.f0∧x.f0≤20) && (fQ x.f0 x.f2 x.f3 x.f4 x.f5 && (mD (l.length:Int) (np x) && lD x.f0 x.f1 x.f2 x.f4 (w3 l (np x) 0) (w3 l (np x) 1) (w3 l (np x) 2))))
theorem aBF (k:Nat) (l:List bN) (hl:l.length≤1048576) (x:bN):eZ.f (k + 4) l x.f0 x.f1 x.f2 x.f3 x.f4 x.f5=some (lN l x):=by
 unfold eZ.f lN
 simp only [bU.f,eO,Option.bind_some]
 by_cases h1:1≤x.f1∧x.f1≤8
 ·rw [decide_eq_true h1,if_pos rfl,Bool.true_and]
  cases decide (0≤x.f0∧x.f0≤20) with
  | false=>rw [if_neg (by decide),Bool.false_and]
  | true =>
   rw [if_pos rfl,Bool.true_and,aCV (k + 3)]
   simp only [Option.bind_some]
   cases fQ x.f0 x.f2 x.f3 x.f4 x.f5 with
   | false=>rw [if_neg (by decide),Bool.false_and]
   | true =>
    rw [if_pos rfl,Bool.true_and,qA (k + 3)]
    simp only [Option.bind_some]
    rw [aAB k l hl]
    unfold np
    cases mD (l.length:Int) (parts x.f0 x.f3 x.f4 x.f5) with
    | false =>
     simp
    | true =>
     simp only [if_true,Option.bind_some,Bool.true_and]
     exact opI _ _ _ _ _ _ _ h1.1 h1.2
 ·rw [decide_eq_false h1,if_neg (by decide),Bool.false_and]
theorem aCW (x y z:Int):decide (x≤y∧y≤z)=(decide (x≤y) && decide (y≤z)):=by
 rw [Bool.decide_and]
theorem aBN {α:Type} {l:List α} (h:l.length=2):∃ x y,l=[x,y]:=by
 match l,h with
 | [x,y],_=>exact ⟨x,y,rfl⟩
theorem aEK {α:Type} {l:List α} (h:l.length=3):∃ x y z,l=[x,y,z]:=by
 match l,h with
 | [x,y,z],_=>exact ⟨x,y,z,rfl⟩
theorem sU (x a b:Int):oY x a b=decide (a≤x∧x≤b):=rfl
theorem aAI {α:Type} {l:List α} (h:l.length=1):∃ x,l=[x]:=List.length_eq_one_iff.1 h
theorem aCG (o w kk a b c:Int) (h1:1≤w) (h8:w≤8) (ws:List Int) (hws:ws.length=(parts o a b c).length) :
  Ev (fun k=>zR k ⟨o,w,kk,a,b,c⟩ ws) (decide (0≤o∧o≤20) && (fQ o kk a b c && lD o w kk b (ws.getD 0 0) (ws.getD 1 0) (ws.getD 2 0))):=by
 obtain ⟨n,rfl⟩:=Int.eq_ofNat_of_zero_le (show 0≤w by omega)
 by_cases h0:o=0
 ·subst h0
  simp only [zR,if_true]
  refine bI (a:=gQ n kk) (f:=fun _ t=>some (t && (a == 0 && (b == 0 && c == 0)))) (kS n (by omega) (by omega) kk) ?_
  simp only [fQ,lD,if_true,true_or,Int.toNat_natCast]
  rw [show (gQ n kk && (a == 0 && (b == 0 && c == 0)))=(decide ((0:Int)≤0∧(0:Int)≤20) && (a == 0 && (b == 0 && c == 0) && gQ n kk)) from by rw [Bool.and_comm];rfl]
  exact bA _
 refine tB (f:=fun _=>some (decide (0≤o∧o≤20) && (fQ o kk a b c && lD o (n:Int) kk b (ws.getD 0 0) (ws.getD 1 0) (ws.getD 2 0)))) (fun k=>?_) (bA _)
 simp only [zR,if_neg h0,sU]
 by_cases h1':o=1
 ·subst h1'
  simp [fQ,lD,Bool.and_comm,Bool.and_left_comm]
 simp only [if_neg h1']
 by_cases h2:o=2
 ·subst h2
  obtain ⟨x,rfl⟩:=aAI (hws.trans (by simp [parts]))
  simp [fQ,lD,qu,rd,Bool.and_comm,Bool.and_left_comm]
 simp only [if_neg h2]
 by_cases h4:3≤o∧o≤12
 ·have hp:parts o a b c=[a,b]:=by
   unfold parts qu
   rw [if_neg (by simp;omega),if_pos (by omega)]
  obtain ⟨x,y,rfl⟩:=aBN (hws.trans (by rw [hp];rfl))
  have hu:fQ o kk a b c=(kk == 0 && c == 0):=by
   unfold fQ qu
   rw [if_neg (by omega),if_neg (by omega),if_neg (by simp;omega),if_neg (by omega),if_pos (by omega)]
  have ho:lD o (n:Int) kk b x y 0=(x == (n:Int) && y == (n:Int)):=by
   unfold lD
   rw [if_neg (by omega),if_neg (by omega),if_neg (by omega),if_pos h4]
  simp [decide_eq_true h4,hu,ho,rd,decide_eq_true (show 0≤o∧o≤20 by omega),h4,show (0≤o) by omega,show o≤20 by omega]
  cases x == (n:Int) <;> cases y == (n:Int) <;> cases kk == 0 <;> cases c == 0 <;> rfl
 simp only [decide_eq_false h4,Bool.false_eq_true,if_false]
 by_cases h5:13≤o∧o≤15
 ·have hp:parts o a b c=[a,b]:=by
   unfold parts qu
   rw [if_neg (by simp;omega),if_pos (by omega)]
  obtain ⟨x,y,rfl⟩:=aBN (hws.trans (by rw [hp];rfl))
  have hu:fQ o kk a b c=(kk == 0 && c == 0):=by
   unfold fQ qu
   rw [if_neg (by omega),if_neg (by omega),if_neg (by simp;omega),if_neg (by omega),if_pos (by omega)]
  have ho:lD o (n:Int) kk b x y 0=(x == y && (n:Int) == 1):=by
   unfold lD
   rw [if_neg (by omega),if_neg (by omega),if_neg (by omega),if_neg (by omega),if_pos h5]
  simp [hu,ho,rd,Bool.and_comm,Bool.and_left_comm,h5,show (0≤o) by omega,show o≤20 by omega]
 simp only [decide_eq_false h5,Bool.false_eq_true,if_false]
 by_cases h16:o=16
 ·subst h16
  obtain ⟨x,y,rfl⟩:=aBN (hws.trans (by simp [parts,qu]))
  simp [fQ,lD,qu,rd,Bool.and_comm,Bool.and_left_comm]
 simp only [if_neg h16]
 by_cases h17:o=17
 ·subst h17
  obtain ⟨x,rfl⟩:=aAI (hws.trans (by simp [parts]))
  by_cases hk:0≤kk
  ·simp [fQ,lD,qu,rd,Bool.and_comm,Bool.and_left_comm,aCW,hk]
  ·simp [fQ,lD,qu,rd,Bool.and_comm,Bool.and_left_comm,aCW,hk]
 simp only [if_neg h17]
 by_cases h18:o=18
 ·subst h18
  obtain ⟨x,y,z,rfl⟩:=aEK (hws.trans (by simp [parts,qu]))
  simp [fQ,lD,qu,rd]
  cases x == 1 <;> cases y == (n:Int) <;> cases z == (n:Int) <;> cases kk == 0 <;> rfl
 simp only [if_neg h18]
 by_cases hq:o=19∨o=20
 ·have hp:parts o a b c=[a]:=by
   unfold parts qu
   rw [if_pos (by simp;omega)]
  obtain ⟨x,rfl⟩:=aAI (hws.trans (by rw [hp];rfl))
  have hu:fQ o kk a b c=(c == 0):=by
   unfold fQ qu
   rw [if_neg (by omega),if_neg (by omega),if_pos (by simpa using hq)]
  have ho:lD o (n:Int) kk b x 0 0=(decide (0≤kk∧kk≤7) && (decide (1≤b∧b≤8) && (x == 1 && (n:Int) == 1))):=by
   unfold lD
   rw [if_neg (by omega),if_neg (by omega),if_neg (by omega),if_neg (by omega),if_neg (by omega),if_neg (by omega),if_neg (by omega),if_neg (by omega)]
  rw [if_pos hq]
  simp only [List.length_singleton,if_pos (show 0 < 1 by decide),rd,Int.toNat_zero,List.getD_cons_zero,hu,ho,List.getD_cons_succ,List.getD_nil,decide_eq_true (show 0≤o∧o≤20 by omega),Bool.true_and]
  congr 1
  cases decide (0≤kk∧kk≤7) <;> cases decide (1≤b∧b≤8) <;> cases x == 1 <;> cases (n:Int) == 1 <;> cases c == 0 <;> rfl
 ·rw [if_neg hq,decide_eq_false (show ¬ (0≤o∧o≤20) by omega),Bool.false_and]
theorem aBD (l:List bN) (ps:List Int) (hps:ps.length≤3) (hp:∀ p∈ps,0≤p∧p < (l.length:Int)):Ev (fun k=>uO k l ps [] 0) (ps.map fun p=>(aC l p).f1):=by
 have main:∀ j,j≤ps.length→Ev (fun k=>uO k l ps ((ps.take j).map fun p=>(aC l p).f1) (j:Int)) (ps.map fun p=>(aC l p).f1):=by
  refine jV (fun k j=>uO k l ps ((ps.take j).map fun p=>(aC l p).f1) (j:Int)) ps.length _ (fun j hj h=>?_) ?_
  ·have hr:rd ps (j:Int)=ps[j]:=by rw [dP,dM ps j _ hj]
   have hm:=hp _ (List.getElem_mem hj)
   refine bB ?_
   simp only [uO,if_pos (show (j:Int) < (ps.length:Int) by omega),hr,eH j (show j < 4611686018427387904 by omega),
    if_pos (show (0≤(j:Int)∧(0≤ps[j]∧ps[j] < (l.length:Int)))∧(((ps.take j).map fun p=>(aC l p).f1).length:Nat) < 17592186044416 from ⟨⟨by omega,hm⟩,by simp;omega⟩)]
   rw [show ((ps.take j).map fun p=>(aC l p).f1) ++ [(aC l ps[j]).f1]=((ps.take (j + 1)).map fun p=>(aC l p).f1) from by rw [List.take_succ_eq_append_getElem hj,List.map_append];rfl]
   exact h
  ·refine bB ?_
   simp only [uO,if_neg (show ¬ (ps.length:Int) < (ps.length:Int) by omega),List.take_length]
   exact bA _
 exact main 0 (by omega)
theorem aAE (i:Nat) (hi:i≤1048576) (ps:List Int) (hps:ps.length≤3):Ev (fun k=>xO k ps (i:Int) 0) (mD (i:Int) ps):=by
 have hw:wrap64 ((i:Int) - 1)=(i:Int) - 1:=iB (by omega) (by omega)
 have main:∀ d j,j + d=ps.length→(∀ q (hq:q < ps.length),q < j→0≤ps[q]∧ps[q]≤(i:Int) - 1)→Ev (fun k=>xO k ps (i:Int) (j:Int)) (mD (i:Int) ps):=by
  intro d
  induction d with
  | zero =>
   intro j hj hok
   have hall:mD (i:Int) ps=true:=by
    unfold mD
    rw [List.all_eq_true]
    intro p hp
    obtain ⟨q,hq,rfl⟩:=List.getElem_of_mem hp
    exact decide_eq_true (hok q hq (by omega))
   refine bB ?_
   simp only [xO,if_neg (show ¬ (j:Int) < (ps.length:Int) by omega)]
   rw [hall]
   exact bA _
  | succ d ih =>
   intro j hj hok
   have hj2:j < ps.length:=by omega
   have hr:rd ps (j:Int)=ps[j]:=by rw [dP,dM ps j _ hj2]
   refine bB ?_
   simp only [xO,if_pos (show (j:Int) < (ps.length:Int) by omega),if_pos (show 0≤(j:Int) by omega),hr,hw,sU,eH j (show j < 4611686018427387904 by omega)]
   by_cases hc:0≤ps[j]∧ps[j]≤(i:Int) - 1
   ·simp only [decide_eq_true hc,if_true]
    refine ih (j + 1) (by omega) (fun q hq hq2=>?_)
    rcases Nat.lt_succ_iff_lt_or_eq.1 hq2 with h|rfl
    ·exact hok q hq h
    ·exact hc
   ·simp only [decide_eq_false hc,Bool.false_eq_true,if_false]
    have hall:mD (i:Int) ps=false:=by
     unfold mD
     rw [List.all_eq_false]
     exact ⟨ps[j],List.getElem_mem hj2,by simpa using hc⟩
    rw [hall]
    exact bA _
 exact main ps.length 0 (by omega) (fun q _ hq=>by omega)
theorem aCT (l:List bN) (i:Nat) (hi:i < l.length) (hl:l.length≤1048576):Ev (fun k=>fP.f k l (i:Int)) (lN (l.take i) (aC l (i:Int))):=by
 generalize hx:aC l (i:Int)=x
 have hlen:((l.take i).length:Int)=(i:Int):=by rw [List.length_take];omega
 have hn3:=hF x
 have hrd:∀ p:Int,0≤p→p≤(i:Int) - 1→aC (l.take i) p=aC l p:=fun p h0 h1=>by
  unfold aC
  rw [List.getD_eq_getElem?_getD,List.getD_eq_getElem?_getD,List.getElem?_take,if_pos (by omega)]
 have fin:lN (l.take i) x=(mD (i:Int) (np x) && (decide (1≤x.f1∧x.f1≤8) && (decide (0≤x.f0∧x.f0≤20) && (fQ x.f0 x.f2 x.f3 x.f4 x.f5 && lD x.f0 x.f1 x.f2 x.f4 (((np x).map fun p=>(aC l p).f1).getD 0 0) (((np x).map fun p=>(aC l p).f1).getD 1 0) (((np x).map fun p=>(aC l p).f1).getD 2 0))))):=by
  unfold lN
  rw [hlen]
  cases hp:mD (i:Int) (np x) with
  | false=>simp
  | true =>
   have hall:∀ p∈np x,0≤p∧p≤(i:Int) - 1:=fun p hm=>by
    unfold mD at hp
    rw [List.all_eq_true] at hp
    exact of_decide_eq_true (hp p hm)
   have hw:∀ q:Nat,w3 (l.take i) (np x) q=((np x).map fun p=>(aC l p).f1).getD q 0:=fun q=>by
    unfold w3
    rw [List.getD_eq_getElem?_getD,List.getElem?_map]
    by_cases hq:q < (np x).length
    ·rw [if_pos hq,dP,dM (np x) q _ hq,List.getElem?_eq_getElem hq]
     have:=hall _ (List.getElem_mem hq)
     rw [hrd _ this.1 this.2]
     rfl
    ·rw [if_neg hq,List.getElem?_eq_none (by omega)]
     rfl
   rw [hw 0,hw 1,hw 2,Bool.true_and,Bool.true_and]
 rw [fin]
 unfold fP.f
 simp only [if_pos (show 0≤(i:Int)∧(i:Int) < (l.length:Int) by omega),hx]
 refine bI (f:=fun k ps=>(xO k ps (i:Int) 0).bind fun t=>if t=true then (if oY x.f1 1 8=true then (uO k l ps [] 0).bind fun ws=>zR k x ws else some false) else some false) (iF (f:=fun _=>some (np x)) (fun k=>pQ k _ _ _ _ _ _) (bA _)) ?_
 refine bI (f:=fun k t=>if t=true then (if oY x.f1 1 8=true then (uO k l (np x) [] 0).bind fun ws=>zR k x ws else some false) else some false) (aAE i (by omega) (np x) hn3) ?_
 cases hp:mD (i:Int) (np x) with
 | false =>
  simp only [Bool.false_eq_true,if_false,Bool.false_and]
  exact bA _
 | true =>
  have hall:∀ p∈np x,0≤p∧p < (l.length:Int):=fun p hm=>by
   unfold mD at hp
   rw [List.all_eq_true] at hp
   have:=of_decide_eq_true (hp p hm)
   omega
  simp only [if_true,Bool.true_and,sU]
  by_cases hW:1≤x.f1∧x.f1≤8
  ·simp only [decide_eq_true hW,if_true,Bool.true_and]
   refine bI (f:=fun k ws=>zR k x ws) (aBD l (np x) hn3 hall) ?_
   exact aCG x.f0 x.f1 x.f2 x.f3 x.f4 x.f5 hW.1 hW.2 ((np x).map fun p=>(aC l p).f1) (by rw [List.length_map];rfl)
  ·simp only [decide_eq_false hW,Bool.false_eq_true,if_false,Bool.false_and]
   exact bA _
def xR (l:List bN):Nat→Nat→Bool
 | 0,_=>true
 | d + 1,i=>lN (l.take i) (aC l (i:Int)) && xR l d (i + 1)
def fT (l:List bN):Bool:=decide (1≤(l.length:Int)∧(l.length:Int)≤80) && xR l l.length 0
theorem pW (l:List bN):∀ d i,xR l d i=true→∀ j,i≤j→j < i + d→lN (l.take j) (aC l (j:Int))=true:=by
 intro d
 induction d with
 | zero=>intro i _ j h1 h2;omega
 | succ d ih =>
  intro i h j h1 h2
  simp only [xR,Bool.and_eq_true] at h
  rcases Nat.lt_or_ge i j with h3|h3
  ·exact ih (i + 1) h.2 j (by omega) (by omega)
  ·obtain rfl:j=i:=by omega
   exact h.1
theorem aCO (l:List bN) (hl:l.length≤1048576):Ev (fun k=>cZ.f k l) (fT l):=by
 unfold cZ.f fT
 simp only [eO,Option.bind_some]
 by_cases h:1≤(l.length:Int)∧(l.length:Int)≤80
 ·simp only [decide_eq_true h,if_true,Bool.true_and]
  have main:∀ d i,i + d=l.length→Ev (fun k=>cZ.l0 k l l (l.length:Int) (i:Int)) (xR l d i):=by
   intro d
   induction d with
   | zero =>
    intro i hi
    refine bB ?_
    simp only [cZ.l0,if_neg (show ¬ (i:Int) < (l.length:Int) by omega)]
    exact bA _
   | succ d ih =>
    intro i hi
    refine bB ?_
    simp only [cZ.l0,if_pos (show (i:Int) < (l.length:Int) by omega),if_pos (show 0≤(i:Int) by omega),if_pos (show (i:Int)≤(l.length:Int) by omega),Int.toNat_natCast,eH i (show i < 4611686018427387904 by omega)]
    refine bI (a:=lN (l.take i) (aC l (i:Int))) (f:=fun k t108=>if t108=true then (cZ.l0 k l l (l.length:Int) ((i + 1:Nat):Int)) else (some false)) ⟨4,fun k hk=>?_⟩ ?_
    ·obtain ⟨m,rfl⟩:∃ m,k=m + 4:=⟨k - 4,by omega⟩
     exact aBF m (l.take i) (by rw [List.length_take];omega) _
    ·unfold xR
     cases lN (l.take i) (aC l (i:Int)) with
     | false=>exact bA _
     | true =>
      simp only [if_true,Bool.true_and]
      exact ih (i + 1) (by omega)
  exact main l.length 0 (by omega)
 ·simp only [decide_eq_false h,Bool.false_eq_true,if_false,Bool.false_and]
  exact bA _
theorem oM (l:List bN) (hl:l.length≤1048576):Ev (fun k=>cD.f k l) (fT l):=by
 unfold cD.f fT
 simp only [oF,Option.bind_some]
 by_cases h:1≤(l.length:Int)∧(l.length:Int)≤80
 ·simp only [decide_eq_true h,if_true,Bool.true_and]
  have main:∀ d i,i + d=l.length→Ev (fun k=>cD.l0 k l (i:Int)) (xR l d i):=by
   intro d
   induction d with
   | zero =>
    intro i hi
    refine bB ?_
    simp only [cD.l0,if_neg (show ¬ (i:Int) < (l.length:Int) by omega)]
    exact bA _
   | succ d ih =>
    intro i hi
    refine bB ?_
    simp only [cD.l0,if_pos (show (i:Int) < (l.length:Int) by omega),eH i (show i < 4611686018427387904 by omega)]
    refine bI (a:=lN (l.take i) (aC l (i:Int))) (f:=fun k t108=>if t108=true then (cD.l0 k l ((i + 1:Nat):Int)) else (some false)) (aCT l i (by omega) hl) ?_
    unfold xR
    cases lN (l.take i) (aC l (i:Int)) with
    | false=>exact bA _
    | true =>
     simp only [if_true,Bool.true_and]
     exact ih (i + 1) (by omega)
  exact main l.length 0 (by omega)
 ·simp only [decide_eq_false h,Bool.false_eq_true,if_false,Bool.false_and]
  exact bA _
theorem dV (l:List bN) (h:fT l=true) (i:Nat) (hi:i < l.length):∀ p∈np (aC l (i:Int)),0≤p∧p≤(i:Int) - 1:=by
 unfold fT at h
 rw [Bool.and_eq_true] at h
 have h1:=pW l l.length 0 h.2 i (by omega) (by omega)
 unfold lN at h1
 simp only [Bool.and_eq_true] at h1
 have h2:=h1.2.2.2.1
 unfold mD at h2
 rw [List.all_eq_true] at h2
 intro p hp
 have:=of_decide_eq_true (h2 p hp)
 rw [List.length_take] at this
 omega
def rN (ms:List Bool) (ps:List Int):List Bool:=ps.foldl (fun m p=>m.set p.toNat true) ms
theorem jX (ps:List Int):∀ ms:List Bool,(rN ms ps).length=ms.length:=by
 induction ps with
 | nil=>intro ms;rfl
 | cons p ps ih =>
  intro ms
  show (rN (ms.set p.toNat true) ps).length=_
  rw [ih,List.length_set]
def mA (l:List bN):Nat→List Bool→List Bool
 | 0,ms=>ms
 | j + 1,ms=>mA l j (if cW false ms (j:Int)=true then rN ms (np (aC l (j:Int))) else ms)
theorem fK (ms:List Bool) (j:Nat):cW false ms (j:Int)=ms.getD j false:=by unfold cW;simp
theorem tQ (ms:List Bool) (j:Nat) (q:Nat) (h:ms.getD j false=true):(ms.set q true).getD j false=true:=by
 rw [List.getD_eq_getElem?_getD] at h ⊢
 rw [List.getElem?_set]
 by_cases e:q=j
 ·subst e
  rw [if_pos rfl]
  by_cases hq:q < ms.length
  ·rw [if_pos hq];rfl
  ·rw [List.getElem?_eq_none (by omega)] at h
   simp at h
 ·rw [if_neg e]
  exact h
theorem aAV (l:List bN) (i:Nat) (ps:List Int) (hp3:ps.length≤3) (r:List Bool) (n:Nat) (hi:i < n) (hn:n≤1048576) (hp:∀ p∈ps,0≤p∧p < (n:Int)) (ms:List Bool) (hm:ms.length=n)
  (e:Ev (fun k=>bG.l1 k l (if cW false ms (i:Int)=true then rN ms ps else ms) ((i:Int) - 1)) r):Ev (fun k=>bG.l2 k l ms (i:Int) ps 0) r:=by
 have hw:wrap64 ((i:Int) - 1)=(i:Int) - 1:=iB (by omega) (by omega)
 by_cases hc:cW false ms (i:Int)=true
 ·rw [if_pos hc] at e
  have main:∀ d j,j + d=ps.length→∀ m:List Bool,m.length=n→cW false m (i:Int)=true→rN m (ps.drop j)=rN ms ps→Ev (fun k=>bG.l2 k l m (i:Int) ps (j:Int)) r:=by
   intro d
   induction d with
   | zero =>
    intro j hj m hm hr he
    rw [List.drop_of_length_le (by omega)] at he
    refine bB ?_
    simp only [bG.l2,if_neg (show ¬ (j:Int) < (ps.length:Int) by omega)]
    rw [show m=rN ms ps from he,hw]
    exact e
   | succ d ih =>
    intro j hj m hm hr he
    have hj2:j < ps.length:=by omega
    have hq:rd ps (j:Int)=ps[j]:=by rw [dP,dM ps j _ hj2]
    have hpj:=hp _ (List.getElem_mem hj2)
    refine bB ?_
    simp only [bG.l2,if_pos (show (j:Int) < (ps.length:Int) by omega),if_pos (show 0≤(i:Int) by omega),if_pos (show (i:Int) < (m.length:Int) by omega),hr,if_true,if_pos (show 0≤(j:Int) by omega),hq,if_pos hpj.1,if_pos (show ps[j] < (m.length:Int) by omega),eH j (show j < 4611686018427387904 by omega)]
    refine ih (j + 1) (by omega) _ (by rw [List.length_set];exact hm) ?_ ?_
    ·rw [fK] at hr ⊢
     exact tQ m i _ hr
    ·rw [← he,List.drop_eq_getElem_cons hj2]
     rfl
  exact main ps.length 0 (by omega) ms hm hc (by rw [List.drop_zero])
 ·rw [if_neg hc] at e
  refine bB ?_
  by_cases hl:(0:Int) < (ps.length:Int)
  ·simp only [bG.l2,if_pos hl,if_pos (show 0≤(i:Int) by omega),if_pos (show (i:Int) < (ms.length:Int) by omega),if_neg hc]
   rw [hw]
   exact e
  ·simp only [bG.l2,if_neg hl]
   rw [hw]
   exact e
theorem aAJ (l:List bN) (hT:fT l=true) (hn:l.length≤1048576):∀ j,j≤l.length→∀ ms:List Bool,ms.length=l.length→Ev (fun k=>bG.l1 k l ms ((j:Int) - 1)) (mA l j ms):=by
 intro j
 induction j with
 | zero =>
  intro _ ms _
  refine bB ?_
  simp only [bG.l1,if_neg (show ¬ (((0:Nat):Int) - 1 ≥ 0) by omega)]
  exact bA _
 | succ j ih =>
  intro hj ms hm
  rw [show ((j + 1:Nat):Int) - 1=(j:Int) from by omega]
  refine bB ?_
  simp only [bG.l1,if_pos (show (j:Int) ≥ 0 by omega),if_pos (show 0≤(j:Int) by omega),if_pos (show (j:Int) < (l.length:Int) by omega)]
  refine bI (a:=np (aC l (j:Int))) (f:=fun k t108=>bG.l2 k l ms (j:Int) t108 0) (iF (f:=fun _=>some (np (aC l (j:Int)))) (fun k=>pQ k _ _ _ _ _ _) (bA _)) ?_
  refine aAV l j _ (hF _) _ l.length (by omega) hn (fun p hp=>by have:=dV l hT j (by omega) p hp;omega) ms hm ?_
  exact ih (by omega) _ (by split <;> simp [jX,hm])
def lU (n:Nat):List Bool:=(List.replicate n false).set (n - 1) true
theorem fF (n:Nat):(lU n).length=n:=by simp [lU]
theorem pA (l:List bN) (hT:fT l=true) (hn:l.length≤1048576):Ev (fun k=>bG.f k l) (mA l l.length (lU l.length)):=by
 have hw:wrap64 ((l.length:Int) - 1)=(l.length:Int) - 1:=iB (by omega) (by omega)
 have main:∀ j,j≤l.length→Ev (fun k=>bG.l0 k l ((lU l.length).take j) (j:Int)) (mA l l.length (lU l.length)):=by
  refine jV (fun k j=>bG.l0 k l ((lU l.length).take j) (j:Int)) l.length _ (fun j hj h=>?_) ?_
  ·refine bB ?_
   simp only [bG.l0,if_pos (show (j:Int) < (l.length:Int) by omega),if_pos (show ((lU l.length).take j).length < 140737488355328 by simp;omega),eH j (show j < 4611686018427387904 by omega),hw]
   rw [show (lU l.length).take j ++ [((j:Int) == (l.length:Int) - 1)]=(lU l.length).take (j + 1) from by
    rw [List.take_succ_eq_append_getElem (by rw [fF];exact hj)]
    congr 2
    simp only [lU,List.getElem_set,List.getElem_replicate]
    by_cases e:l.length - 1=j
    ·rw [if_pos e]
     exact beq_iff_eq.2 (by omega)
    ·rw [if_neg e]
     exact beq_eq_false_iff_ne.2 (by omega)]
   exact h
  ·refine bB ?_
   simp only [bG.l0,if_neg (show ¬ (l.length:Int) < (l.length:Int) by omega),hw]
   rw [List.take_of_length_le (by rw [fF];omega)]
   exact aAJ l hT hn l.length (by omega) _ (fF _)
 exact main 0 (by omega)
theorem aDJ (l:List bN) (i:Nat) (ps:List Int) (hp3:ps.length≤3) (r:List Bool) (n:Nat) (hn:n≤1048576) (hi:i < n) (hp:∀ p∈ps,0≤p∧p < (n:Int)) (ms:List Bool) (hm:ms.length=n)
  (e:Ev (fun k=>cC.l0 (fun _=>some true) k l (rN ms ps) ((i:Int) - 1)) r):Ev (fun k=>cC.l1 (fun _=>some true) k l ms (i:Int) ps (ps.length:Int) 0) r:=by
 have hw:wrap64 ((i:Int) - 1)=(i:Int) - 1:=iB (by omega) (by omega)
 have main:∀ d j,j + d=ps.length→∀ m:List Bool,m.length=n→rN m (ps.drop j)=rN ms ps→Ev (fun k=>cC.l1 (fun _=>some true) k l m (i:Int) ps (ps.length:Int) (j:Int)) r:=by
  intro d
  induction d with
  | zero =>
   intro j hj m hm he
   rw [List.drop_of_length_le (by omega)] at he
   refine bB ?_
   simp only [cC.l1,if_neg (show ¬ (j:Int) < (ps.length:Int) by omega)]
   rw [show m=rN ms ps from he,hw]
   exact e
  | succ d ih =>
   intro j hj m hm he
   have hj2:j < ps.length:=by omega
   have hq:rd ps (j:Int)=ps[j]:=by rw [dP,dM ps j _ hj2]
   have hpj:=hp _ (List.getElem_mem hj2)
   refine bB ?_
   simp only [cC.l1,if_pos (show (j:Int) < (ps.length:Int) by omega),if_pos (show 0≤(j:Int) by omega),hq,if_pos hpj.1,if_pos (show ps[j] < (m.length:Int) by omega),eH j (show j < 4611686018427387904 by omega)]
   refine ih (j + 1) (by omega) _ (by rw [List.length_set];exact hm) ?_
   rw [← he,List.drop_eq_getElem_cons hj2]
   rfl
 exact main ps.length 0 (by omega) ms hm (by rw [List.drop_zero])
theorem yV (l:List bN) (hT:fT l=true) (hn:l.length≤1048576):∀ j,j≤l.length→∀ ms:List Bool,ms.length=l.length→Ev (fun k=>cC.l0 (fun _=>some true) k l ms ((j:Int) - 1)) (mA l j ms):=by
 intro j
 induction j with
 | zero =>
  intro _ ms _
  refine bB ?_
  simp only [cC.l0,if_neg (show ¬ (((0:Nat):Int) - 1 ≥ 0) by omega)]
  exact bA _
 | succ j ih =>
  intro hj ms hm
  have hw:wrap64 ((j:Int) - 1)=(j:Int) - 1:=iB (by omega) (by omega)
  rw [show ((j + 1:Nat):Int) - 1=(j:Int) from by omega]
  refine bB ?_
  simp only [cC.l0,if_pos (show (j:Int) ≥ 0 by omega),if_pos (show 0≤(j:Int) by omega),if_pos (show (j:Int) < (ms.length:Int) by omega),Option.bind_some,Bool.not_true,mA]
  by_cases hc:cW false ms (j:Int)=true
  ·simp only [if_pos hc]
   refine bB ?_
   simp only [cC.j1,Bool.false_eq_true,if_false,if_pos (show 0≤(j:Int) by omega),if_pos (show (j:Int) < (l.length:Int) by omega)]
   refine bI (a:=np (aC l (j:Int))) (f:=fun k t108=>cC.l1 (fun _=>some true) k l ms (j:Int) t108 (t108.length:Int) 0) (iF (f:=fun _=>some (np (aC l (j:Int)))) (fun k=>qA k _ _ _ _ _ _) (bA _)) ?_
   exact aDJ l j _ (hF _) _ l.length hn (by omega) (fun p hp=>by have:=dV l hT j (by omega) p hp;omega) ms hm (ih (by omega) _ (by rw [jX];exact hm))
  ·simp only [if_neg hc]
   refine bB ?_
   simp only [cC.j1,if_true,hw]
   exact ih (by omega) _ hm
theorem aBY (l:List bN) (hT:fT l=true) (hn:l.length≤1048576):Ev (fun k=>fB.f k l) (mA l l.length (lU l.length)):=by
 have h1:1≤l.length:=by
  unfold fT at hT
  rw [Bool.and_eq_true] at hT
  have:=of_decide_eq_true hT.1
  omega
 have hw:wrap64 ((l.length:Int) - 1)=(l.length:Int) - 1:=iB (by omega) (by omega)
 unfold fB.f cC.f
 simp only [hw,if_pos (show 0≤(l.length:Int) by omega),Int.toNat_natCast,if_pos (show l.length≤281474976710656 by omega),Option.bind_some,if_pos (show 0≤(l.length:Int) - 1 by omega),
  List.length_replicate,if_pos (show (l.length:Int) - 1 < (l.length:Int) by omega)]
 have h:=yV l hT hn l.length (by omega) (lU l.length) (fF _)
 unfold lU at h ⊢
 rw [show ((l.length:Int) - 1).toNat=l.length - 1 from by omega]
 exact h
def kX (l:List eE):Nat→Nat→Int
 | 0,_=>0
 | d + 1,i=>(aI l (i:Int)).f2 + kX l d (i + 1)
theorem tG (l:List eE) (hl:l.length≤1048576):∃ v:Int,0≤v∧Ev (fun k=>dH.f k l) v∧Ev (fun k=>cX.f k l) (if v > 12 then -1 else v) ∧
  (v≤12→v=kX l l.length 0∧(l.length:Int)≤v∧∀ j,j < l.length→1≤(aI l (j:Int)).f2∧(aI l (j:Int)).f2≤8):=by
 have main:∀ d i,i + d=l.length→∀ s:Int,0≤s→s≤8 * (i:Int)→∃ v:Int,0≤v∧Ev (fun k=>dH.l0 k l s (i:Int)) v∧Ev (fun k=>cX.l0 k (mn s 13) l (l.length:Int) (i:Int)) (if v > 12 then -1 else v) ∧
   (v≤12→v=s + kX l d i∧s + (d:Int)≤v∧∀ j,i≤j→j < l.length→1≤(aI l (j:Int)).f2∧(aI l (j:Int)).f2≤8):=by
  intro d
  induction d with
  | zero =>
   intro i hi s h0 h1
   refine ⟨s,h0,bB ?_,bB ?_,fun h=>⟨by simp [kX],by omega,fun j h2 h3=>by omega⟩⟩
   ·simp only [dH.l0,if_neg (show ¬ (i:Int) < (l.length:Int) by omega)]
    exact bA _
   ·simp only [cX.l0,if_neg (show ¬ (i:Int) < (l.length:Int) by omega)]
    by_cases h:s > 12
    ·rw [if_pos h,if_pos (show mn s 13 > 12 by unfold mn;omega)]
     exact bA _
    ·rw [if_neg h,if_neg (show ¬ mn s 13 > 12 by unfold mn;omega),show mn s 13=s by unfold mn;omega]
     exact bA _
  | succ d ih =>
   intro i hi s h0 h1
   by_cases hw:1≤(aI l (i:Int)).f2∧(aI l (i:Int)).f2≤8
   ·obtain ⟨v,v0,e1,e2,e3⟩:=ih (i + 1) (by omega) (s + (aI l (i:Int)).f2) (by omega) (by push_cast;omega)
    refine ⟨v,v0,bB ?_,bB ?_,fun h=>⟨by have:=(e3 h).1;simp only [kX];omega,by have:=(e3 h).2.1;omega,fun j h2 h3=>?_⟩⟩
    ·simp only [dH.l0,if_pos (show (i:Int) < (l.length:Int) by omega),if_pos (show 0≤(i:Int) by omega),oF,decide_eq_true hw,Option.bind_some,if_true,eH i (show i < 4611686018427387904 by omega),
      iB (show -9223372036854775808≤s + (aI l (i:Int)).f2 by omega) (show s + (aI l (i:Int)).f2≤9223372036854775807 by omega)]
     exact e1
    ·simp only [cX.l0,if_pos (show (i:Int) < (l.length:Int) by omega),if_pos (show 0≤(i:Int) by omega),bU.f,eO,decide_eq_true hw,Option.bind_some,if_true,eH i (show i < 4611686018427387904 by omega),
      show mn (wrap64 (mn s 13 + (aI l (i:Int)).f2)) 13=mn (s + (aI l (i:Int)).f2) 13 from by unfold mn wrap64;omega]
     exact e2
    ·rcases Nat.lt_or_ge i j with h4|h4
     ·exact (e3 h).2.2 j (by omega) h3
     ·obtain rfl:j=i:=by omega
      exact hw
   ·refine ⟨13,by decide,bB ?_,bB ?_,fun h=>absurd h (by decide)⟩
    ·simp only [dH.l0,if_pos (show (i:Int) < (l.length:Int) by omega),if_pos (show 0≤(i:Int) by omega),oF,decide_eq_false hw,Option.bind_some,Bool.false_eq_true,if_false]
     exact bA _
    ·simp only [cX.l0,if_pos (show (i:Int) < (l.length:Int) by omega),if_pos (show 0≤(i:Int) by omega),bU.f,eO,decide_eq_false hw,Option.bind_some,Bool.false_eq_true,if_false]
     rw [if_pos (by decide)]
     exact bA _
 obtain ⟨v,v0,e1,e2,e3⟩:=main l.length 0 (by omega) 0 (by omega) (by omega)
 exact ⟨v,v0,e1,e2,fun h=>⟨by have:=(e3 h).1;omega,by have:=(e3 h).2.1;omega,fun j hj=>(e3 h).2.2 j (by omega) hj⟩⟩
def oD (q:List eE):Nat→Nat→List Int→Option (List Int)
 | 0,_,ws=>some ws
 | d + 1,i,ws=>if (0≤(aI q (i:Int)).f1∧(aI q (i:Int)).f1≤7)∧(1≤(aI q (i:Int)).f2∧(aI q (i:Int)).f2≤8)∧rd ws (aI q (i:Int)).f1=0 then oD q d (i + 1) (ws.set (aI q (i:Int)).f1.toNat (aI q (i:Int)).f2) else none
def sL (ws:List Int):Prop:=ws.length=8∧∀ x∈ws,0≤x
theorem rA {ws:List Int} (h:sL ws) (j:Nat) (v:Int) (hv:0≤v):sL (ws.set j v):=by
 refine ⟨by rw [List.length_set];exact h.1,fun x hx=>?_⟩
 rcases List.mem_or_eq_of_mem_set hx with h1|rfl
 ·exact h.2 x h1
 ·exact hv
theorem xU {ws:List Int} (h:sL ws) (j:Int):0≤rd ws j:=by
 unfold rd
 by_cases hj:j.toNat < ws.length
 ·rw [List.getD_eq_getElem?_getD,List.getElem?_eq_getElem hj]
  exact h.2 _ (List.getElem_mem hj)
 ·rw [List.getD_eq_getElem?_getD,List.getElem?_eq_none (by omega)]
  exact Int.le_refl _
theorem fwI (q:List eE) (hq:q.length≤1048576):∀ d i,i + d=q.length→∀ ws,sL ws→Ev (fun k=>zN k q (i:Int) ws) (oD q d i ws):=by
 intro d
 induction d with
 | zero =>
  intro i hi ws hw
  refine bB ?_
  simp only [zN,if_neg (show ¬ (i:Int) < (q.length:Int) by omega),oD]
  exact bA _
 | succ d ih =>
  intro i hi ws hw
  refine bB ?_
  simp only [zN,oD,if_pos (show (i:Int) < (q.length:Int) by omega),if_pos (show 0≤(i:Int) by omega),eF.f,bU.f,eO,Option.bind_some,eH i (show i < 4611686018427387904 by omega)]
  by_cases h1:0≤(aI q (i:Int)).f1∧(aI q (i:Int)).f1≤7
  ·simp only [decide_eq_true h1,if_true]
   by_cases h2:1≤(aI q (i:Int)).f2∧(aI q (i:Int)).f2≤8
   ·simp only [decide_eq_true h2,if_true,if_pos (show 0≤(aI q (i:Int)).f1∧(aI q (i:Int)).f1 < 8 by omega)]
    by_cases h3:rd ws (aI q (i:Int)).f1=0
    ·simp only [if_neg (show ¬ 0 < rd ws (aI q (i:Int)).f1 by omega),if_pos (show (0≤(aI q (i:Int)).f1∧(aI q (i:Int)).f1≤7)∧(1≤(aI q (i:Int)).f2∧(aI q (i:Int)).f2≤8)∧rd ws (aI q (i:Int)).f1=0 from ⟨h1,h2,h3⟩)]
     exact ih (i + 1) (by omega) _ (rA hw _ _ (by omega))
    ·have:=xU hw (aI q (i:Int)).f1
     rw [if_neg (fun h=>h3 h.2.2)]
     simp only [if_pos (show 0 < rd ws (aI q (i:Int)).f1 by omega)]
     exact bA _
   ·rw [if_neg (fun h=>h2 h.2.1)]
    simp only [decide_eq_false h2,Bool.false_eq_true,if_false]
    exact bA _
  ·rw [if_neg (fun h=>h1 h.1)]
   simp only [decide_eq_false h1,Bool.false_eq_true,if_false]
   exact bA _
def orF (x:Option (List Int)) (R:List Int→Bool):Bool:=match x with|none=>false|some ws=>R ws
theorem fwS (q:List eE) (l:List bN) (hq:q.length≤1048576) (R:List Int→Bool) (hR:∀ ws,sL ws→Ev (fun k=>(bG.f k l).bind fun t115=>(bW.l1 k l ws t115 0)) (R ws)) :
  ∀ d i,i + d=q.length→∀ ws,sL ws→Ev (fun k=>bW.l0 k q l ws (i:Int)) (orF (oD q d i ws) R):=by
 intro d
 induction d with
 | zero =>
  intro i hi ws hw
  refine bB ?_
  simp only [bW.l0,if_neg (show ¬ (i:Int) < (q.length:Int) by omega),oD,orF]
  exact hR ws hw
 | succ d ih =>
  intro i hi ws hw
  refine bB ?_
  simp only [bW.l0,oD,if_pos (show (i:Int) < (q.length:Int) by omega),if_pos (show 0≤(i:Int) by omega),oF,Option.bind_some,eH i (show i < 4611686018427387904 by omega)]
  by_cases h1:0≤(aI q (i:Int)).f1∧(aI q (i:Int)).f1≤7
  ·simp only [decide_eq_true h1,if_true]
   by_cases h2:1≤(aI q (i:Int)).f2∧(aI q (i:Int)).f2≤8
   ·have h8:=hw.1
    simp only [decide_eq_true h2,if_true,if_pos h1.1,if_pos (show (aI q (i:Int)).f1 < (ws.length:Int) by omega)]
    by_cases h3:rd ws (aI q (i:Int)).f1=0
    ·simp only [if_pos h3,if_pos (show (0≤(aI q (i:Int)).f1∧(aI q (i:Int)).f1≤7)∧(1≤(aI q (i:Int)).f2∧(aI q (i:Int)).f2≤8)∧rd ws (aI q (i:Int)).f1=0 from ⟨h1,h2,h3⟩)]
     exact ih (i + 1) (by omega) _ (rA hw _ _ (by omega))
    ·rw [if_neg (fun h=>h3 h.2.2)]
     simp only [if_neg h3]
     exact bA _
   ·rw [if_neg (fun h=>h2 h.2.1)]
    simp only [decide_eq_false h2,Bool.false_eq_true,if_false]
    exact bA _
  ·rw [if_neg (fun h=>h1 h.1)]
   simp only [decide_eq_false h1,Bool.false_eq_true,if_false]
   exact bA _
theorem iT (l:List bN):∀ j (ms:List Bool),(mA l j ms).length=ms.length:=by
 intro j
 induction j with
 | zero=>intro ms;rfl
 | succ j ih =>
  intro ms
  unfold mA
  rw [ih]
  split
  ·exact jX _ _
  ·rfl
theorem lC (l:List bN) (h:fT l=true) (i:Nat) (hi:i < l.length) (ho:(aC l (i:Int)).f0=1):0≤(aC l (i:Int)).f2∧(aC l (i:Int)).f2≤7:=by
 unfold fT at h
 rw [Bool.and_eq_true] at h
 have h1:=pW l l.length 0 h.2 i (by omega) (by omega)
 unfold lN at h1
 simp only [Bool.and_eq_true] at h1
 have h2:=h1.2.2.2.2
 unfold lD at h2
 rw [if_neg (by omega),if_pos ho] at h2
 exact of_decide_eq_true h2
def rO (l:List bN) (ms:List Bool) (ws:List Int):Nat→Nat→Bool
 | 0,_=>true
 | d + 1,i => !qu (aC l (i:Int)).f0 && ((if cW false ms (i:Int)=true then (if (aC l (i:Int)).f0=1 then rd ws (aC l (i:Int)).f2 == (aC l (i:Int)).f1 else true) else true) && rO l ms ws d (i + 1))
theorem fnI (l:List bN) (hT:fT l=true) (hn:l.length≤1048576) (ms:List Bool) (hm:ms.length=l.length) (ws:List Int):∀ d i,i + d=l.length→Ev (fun k=>tS k l ms ws (i:Int)) (rO l ms ws d i):=by
 intro d
 induction d with
 | zero =>
  intro i hi
  refine bB ?_
  simp only [tS,if_neg (show ¬ (i:Int) < (l.length:Int) by omega),rO]
  exact bA _
 | succ d ih =>
  intro i hi
  refine bB ?_
  simp only [tS,rO,if_pos (show (i:Int) < (l.length:Int) by omega),if_pos (show 0≤(i:Int) by omega),quI,Option.bind_some,if_pos (show (i:Int) < (ms.length:Int) by omega),eH i (show i < 4611686018427387904 by omega)]
  cases qu (aC l (i:Int)).f0 with
  | true=>exact bA _
  | false =>
   simp only [Bool.false_eq_true,if_false,Bool.not_false,Bool.true_and]
   by_cases hr:cW false ms (i:Int)=true
   ·simp only [if_pos hr]
    by_cases ho:(aC l (i:Int)).f0=1
    ·have hv:=lC l hT i (by omega) ho
     simp only [if_pos ho,if_pos (show 0≤(aC l (i:Int)).f2∧(aC l (i:Int)).f2 < 8 by omega)]
     by_cases he:(aC l (i:Int)).f1=rd ws (aC l (i:Int)).f2
     ·simp only [if_pos he,beq_iff_eq.2 he.symm,Bool.true_and]
      exact ih (i + 1) (by omega)
     ·simp only [if_neg he,beq_eq_false_iff_ne.2 (fun h=>he h.symm),Bool.false_and]
      exact bA _
    ·simp only [if_neg ho,Bool.true_and]
     exact ih (i + 1) (by omega)
   ·simp only [if_neg hr,Bool.true_and]
    exact ih (i + 1) (by omega)
theorem fnS (l:List bN) (hT:fT l=true) (hn:l.length≤1048576) (ms:List Bool) (hm:ms.length=l.length) (ws:List Int) (hw:ws.length=8):∀ d i,i + d=l.length→Ev (fun k=>bW.l1 k l ws ms (i:Int)) (rO l ms ws d i):=by
 intro d
 induction d with
 | zero =>
  intro i hi
  refine bB ?_
  simp only [bW.l1,if_neg (show ¬ (i:Int) < (l.length:Int) by omega),rO]
  exact bA _
 | succ d ih =>
  intro i hi
  refine bB ?_
  simp only [bW.l1,rO,if_pos (show (i:Int) < (l.length:Int) by omega),if_pos (show 0≤(i:Int) by omega),zQ,Option.bind_some,if_pos (show (i:Int) < (ms.length:Int) by omega),eH i (show i < 4611686018427387904 by omega)]
  cases qu (aC l (i:Int)).f0 with
  | true=>exact bA _
  | false =>
   simp only [Bool.false_eq_true,if_false,Bool.not_false,Bool.true_and]
   by_cases hr:cW false ms (i:Int)=true
   ·simp only [if_pos hr]
    by_cases ho:(aC l (i:Int)).f0=1
    ·have hv:=lC l hT i (by omega) ho
     simp only [if_pos ho,if_pos hv.1,if_pos (show (aC l (i:Int)).f2 < (ws.length:Int) by omega)]
     by_cases he:rd ws (aC l (i:Int)).f2=(aC l (i:Int)).f1
     ·simp only [if_pos he,beq_iff_eq.2 he,Bool.true_and]
      exact ih (i + 1) (by omega)
     ·simp only [if_neg he,beq_eq_false_iff_ne.2 he,Bool.false_and]
      exact bA _
    ·simp only [if_neg ho,Bool.true_and]
     exact ih (i + 1) (by omega)
   ·simp only [if_neg hr,Bool.true_and]
    exact ih (i + 1) (by omega)
def rR (q:List eE) (l:List bN):Bool:=match oD q q.length 0 (List.replicate 8 0) with
 | none=>false
 | some ws=>fT l && ((aC l ((l.length:Int) - 1)).f1 == 1 && rO l (mA l l.length (lU l.length)) ws l.length 0)
theorem uA:sL (List.replicate 8 0):=⟨rfl,fun x hx=>by rw [List.eq_of_mem_replicate hx];exact Int.le_refl _⟩
theorem fH {l:List bN} (hT:fT l=true):1≤l.length:=by
 unfold fT at hT
 rw [Bool.and_eq_true] at hT
 have:=of_decide_eq_true hT.1
 omega
theorem aAG (q:List eE) (l:List bN) (hq:q.length≤1048576) (hl:l.length≤1048576):Ev (fun k=>fA.f k q l) (rR q l):=by
 have hw:wrap64 ((l.length:Int) - 1)=(l.length:Int) - 1:=iB (by omega) (by omega)
 unfold fA.f rR
 have h1:=fwI q hq q.length 0 (by omega) _ uA
 refine bI (a:=oD q q.length 0 (List.replicate 8 0)) (f:=fun k ws=>match ws with
  | none=>some false
  | some ws=>(cZ.f k l).bind fun t=>if t=true then (if 0≤wrap64 ((l.length:Int) - 1)∧wrap64 ((l.length:Int) - 1) < (l.length:Int) then (if (aC l (wrap64 ((l.length:Int) - 1))).f1=1 then (fB.f k l).bind fun ms=>tS k l ms ws 0 else some false) else none) else some false) h1 ?_
 cases oD q q.length 0 (List.replicate 8 0) with
 | none=>exact bA _
 | some ws =>
  dsimp only
  refine bI (a:=fT l) (f:=fun k t=>if t=true then (if 0≤wrap64 ((l.length:Int) - 1)∧wrap64 ((l.length:Int) - 1) < (l.length:Int) then (if (aC l (wrap64 ((l.length:Int) - 1))).f1=1 then (fB.f k l).bind fun ms=>tS k l ms ws 0 else some false) else none) else some false) (aCO l hl) ?_
  cases hT:fT l with
  | false=>exact bA _
  | true =>
   have hp:=fH hT
   simp only [if_true,hw,if_pos (show 0≤(l.length:Int) - 1∧(l.length:Int) - 1 < (l.length:Int) by omega),Bool.true_and]
   by_cases hW:(aC l ((l.length:Int) - 1)).f1=1
   ·simp only [if_pos hW,beq_iff_eq.2 hW,Bool.true_and]
    refine bI (a:=mA l l.length (lU l.length)) (f:=fun k ms=>tS k l ms ws 0) (aBY l hT hl) ?_
    exact fnI l hT hl _ (by rw [iT,fF]) ws l.length 0 (by omega)
   ·simp only [if_neg hW,beq_eq_false_iff_ne.2 hW,Bool.false_and]
    exact bA _
theorem rG:Ev (fun k=>cU.f k) (List.replicate 8 0):=by
 have main:∀ j,j≤8→Ev (fun k=>cU.l0 k (List.replicate j 0) (j:Int)) (List.replicate 8 0):=by
  refine jV (fun k j=>cU.l0 k (List.replicate j 0) (j:Int)) 8 _ (fun j hj h=>?_) ?_
  ·refine bB ?_
   simp only [cU.l0,if_pos (show (j:Int) < 8 by omega),if_pos (show (List.replicate j (0:Int)).length < 17592186044416 by simp;omega),eH j (show j < 4611686018427387904 by omega),← List.replicate_succ']
   exact h
  ·refine bB ?_
   simp only [cU.l0,if_neg (show ¬ ((8:Nat):Int) < 8 by omega)]
   exact bA _
 exact main 0 (by omega)
theorem aAC (q:List eE) (l:List bN) (hq:q.length≤1048576) (hl:l.length≤1048576):Ev (fun k=>bW.f k q l) (rR q l):=by
 have hw:wrap64 ((l.length:Int) - 1)=(l.length:Int) - 1:=iB (by omega) (by omega)
 have stop:Ev (fun k=>bW.j0 k q l true) false:=bB (by simp only [bW.j0,if_true];exact bA _)
 unfold bW.f
 refine bI (a:=fT l) (f:=fun k t101=>if t101=true then (if 0≤(wrap64 ((l.length:Int) - 1)) then (if (wrap64 ((l.length:Int) - 1)) < (l.length:Int) then (bW.j0 k q l (((aC l (wrap64 ((l.length:Int) - 1))).f1) != 1)) else (none)) else (none)) else (bW.j0 k q l true)) (oM l hl) ?_
 cases hT:fT l with
 | false =>
  have hz:rR q l=false:=by
   unfold rR
   rw [hT]
   cases oD q q.length 0 (List.replicate 8 0) <;> rfl
  rw [hz]
  exact stop
 | true =>
  have hp:=fH hT
  simp only [if_true,hw,if_pos (show 0≤(l.length:Int) - 1 by omega),if_pos (show (l.length:Int) - 1 < (l.length:Int) by omega)]
  by_cases hW:(aC l ((l.length:Int) - 1)).f1=1
  ·have hz:rR q l=orF (oD q q.length 0 (List.replicate 8 0)) (fun ws=>rO l (mA l l.length (lU l.length)) ws l.length 0):=by
    unfold rR orF
    rw [hT,beq_iff_eq.2 hW]
    cases oD q q.length 0 (List.replicate 8 0) <;> rfl
   rw [hz]
   simp only [bne_eq_false_iff_eq.2 hW]
   refine bB ?_
   simp only [bW.j0,Bool.false_eq_true,if_false]
   refine bI (a:=List.replicate 8 0) (f:=fun k t103=>bW.l0 k q l t103 0) rG ?_
   refine fwS q l hq _ (fun ws hws=>?_) q.length 0 (by omega) _ uA
   refine bI (a:=mA l l.length (lU l.length)) (f:=fun k t115=>bW.l1 k l ws t115 0) (pA l hT hl) ?_
   exact fnS l hT hl _ (by rw [iT,fF]) ws hws.1 l.length 0 (by omega)
  ·have hz:rR q l=false:=by
    unfold rR
    rw [hT,beq_eq_false_iff_ne.2 hW]
    cases oD q q.length 0 (List.replicate 8 0) <;> rfl
   rw [hz]
   simp only [bne_iff_ne.2 hW]
   exact stop
theorem oP (x:bN):Ev (fun k=>cI.f k x.f0 x.f1 x.f2 x.f3 x.f4 x.f5) (np x):=iF (f:=fun _=>some (np x)) (fun k=>pQ k _ _ _ _ _ _) (bA _)
abbrev r8 (x3:List (List Bool)):Prop:=∀ p:Nat,p < x3.length→(x3.getD p []).length=8
theorem wL (l:List bN) (x3:List (List Bool)) (i v:Nat) (hi:i < l.length) (hn:l.length≤1048576) (h3:x3.length=i) (h8:r8 x3) (hv:v < 8) (x5:List Bool) (h5:x5.length=v) (R:List Bool) (ps:List Int) (hl:ps.length≤3) (hp:∀ p∈ps,0≤p∧p≤(i:Int) - 1)
  (hR:∀ b:Bool,Ev (fun k=>bC.l1 k l x3 (i:Int) (x5 ++ [b]) ((v + 1:Nat):Int)) R∨True) (hE:∀ b:Bool,∃ R',R'.length=8∧Ev (fun k=>bC.l1 k l x3 (i:Int) (x5 ++ [b]) ((v + 1:Nat):Int)) R') :
  ∀ d j,j + d=ps.length→∀ f:Bool,∃ R',R'.length=8∧Ev (fun k=>bC.l2 k l x3 (i:Int) x5 (v:Int) f ps (j:Int)) R':=by
 intro d
 induction d with
 | zero =>
  intro j hj f
  have hx:x5.length < 140737488355328:=by omega
  by_cases c:(aC l (i:Int)).f0=19
  ·by_cases c2:(aC l (i:Int)).f2=(v:Int)
   ·obtain ⟨R',h,e⟩:=hE false
    refine ⟨R',h,bB ?_⟩
    simp only [bC.l2,if_neg (show ¬ (j:Int) < (ps.length:Int) by omega),if_pos (show 0≤(i:Int) by omega),if_pos (show (i:Int) < (l.length:Int) by omega),if_pos c,if_pos c2,if_pos hx,eH v (show v < 4611686018427387904 by omega)]
    exact e
   ·obtain ⟨R',h,e⟩:=hE f
    refine ⟨R',h,bB ?_⟩
    simp only [bC.l2,if_neg (show ¬ (j:Int) < (ps.length:Int) by omega),if_pos (show 0≤(i:Int) by omega),if_pos (show (i:Int) < (l.length:Int) by omega),if_pos c,if_neg c2,if_pos hx,eH v (show v < 4611686018427387904 by omega)]
    exact e
  ·by_cases c1:(aC l (i:Int)).f0=20
   ·by_cases c2:(aC l (i:Int)).f2=(v:Int)
    ·obtain ⟨R',h,e⟩:=hE false
     refine ⟨R',h,bB ?_⟩
     simp only [bC.l2,if_neg (show ¬ (j:Int) < (ps.length:Int) by omega),if_pos (show 0≤(i:Int) by omega),if_pos (show (i:Int) < (l.length:Int) by omega),if_neg c,if_pos c1,if_pos c2,if_pos hx,eH v (show v < 4611686018427387904 by omega)]
     exact e
    ·obtain ⟨R',h,e⟩:=hE f
     refine ⟨R',h,bB ?_⟩
     simp only [bC.l2,if_neg (show ¬ (j:Int) < (ps.length:Int) by omega),if_pos (show 0≤(i:Int) by omega),if_pos (show (i:Int) < (l.length:Int) by omega),if_neg c,if_pos c1,if_neg c2,if_pos hx,eH v (show v < 4611686018427387904 by omega)]
     exact e
   ·obtain ⟨R',h,e⟩:=hE f
    refine ⟨R',h,bB ?_⟩
    simp only [bC.l2,if_neg (show ¬ (j:Int) < (ps.length:Int) by omega),if_pos (show 0≤(i:Int) by omega),if_pos (show (i:Int) < (l.length:Int) by omega),if_neg c,if_neg c1,if_pos hx,eH v (show v < 4611686018427387904 by omega)]
    exact e
 | succ d ih =>
  intro j hj f
  cases f with
  | true =>
   obtain ⟨R',h,e⟩:=ih (j + 1) (by omega) true
   refine ⟨R',h,bB ?_⟩
   simp only [bC.l2,if_pos (show (j:Int) < (ps.length:Int) by omega),if_true,eH j (show j < 4611686018427387904 by omega)]
   exact e
  | false =>
   have hm:rd ps (j:Int)∈ps:=by rw [dP,dM ps j _ (by omega)];exact List.getElem_mem _
   obtain ⟨p0,p1⟩:=hp _ hm
   obtain ⟨q,hq⟩:=Int.eq_ofNat_of_zero_le p0
   have hr8:(fW x3 (rd ps (j:Int))).length=8:=by
    rw [hq]
    exact h8 q (by omega)
   obtain ⟨R',h,e⟩:=ih (j + 1) (by omega) (cW false (fW x3 (rd ps (j:Int))) (v:Int))
   refine ⟨R',h,bB ?_⟩
   simp only [bC.l2,if_pos (show (j:Int) < (ps.length:Int) by omega),Bool.false_eq_true,if_false,if_pos (show 0≤(j:Int) by omega),if_pos p0,if_pos (show rd ps (j:Int) < (x3.length:Int) by omega),if_pos (show 0≤(v:Int) by omega),hr8,if_pos (show (v:Int) < ((8:Nat):Int) by omega),eH j (show j < 4611686018427387904 by omega)]
   exact e
theorem wW (l:List bN) (hT:fT l=true) (hn:l.length≤1048576) (x3:List (List Bool)) (i:Nat) (hi:i < l.length) (h3:x3.length=i) (h8:r8 x3)
  (hE:∀ row:List Bool,row.length=8→∃ R',R'.length=8∧Ev (fun k=>bC.l0 k l (x3 ++ [row]) ((i + 1:Nat):Int)) R') :
  ∀ d v,v + d=8→∀ x5:List Bool,x5.length=v→∃ R',R'.length=8∧Ev (fun k=>bC.l1 k l x3 (i:Int) x5 (v:Int)) R':=by
 intro d
 induction d with
 | zero =>
  intro v hv x5 h5
  obtain ⟨R',h,e⟩:=hE x5 (by omega)
  refine ⟨R',h,bB ?_⟩
  simp only [bC.l1,if_neg (show ¬ (v:Int) < 8 by omega),if_pos (show x3.length < 5864062014805 by omega),eH i (show i < 4611686018427387904 by omega)]
  exact e
 | succ d ih =>
  intro v hv x5 h5
  have key:=wL l x3 i v hi hn h3 h8 (by omega) x5 h5 [] (np (aC l (i:Int))) (hF _) (dV l hT i hi) (fun _=>Or.inr trivial) (fun b=>ih (v + 1) (by omega) (x5 ++ [b]) (by simp [h5])) (np (aC l (i:Int))).length 0 (by omega)
  have kj:∀ f:Bool,∃ R',R'.length=8∧Ev (fun k=>bC.j2 k l x3 (i:Int) x5 (v:Int) f) R':=fun f=>by
   obtain ⟨R',h,e⟩:=key f
   refine ⟨R',h,bB ?_⟩
   simp only [bC.j2,if_pos (show 0≤(i:Int) by omega),if_pos (show (i:Int) < (l.length:Int) by omega)]
   exact bI (f:=fun k t=>bC.l2 k l x3 (i:Int) x5 (v:Int) f t 0) (oP _) e
  by_cases c:(aC l (i:Int)).f0=1
  ·obtain ⟨R',h,e⟩:=kj ((aC l (i:Int)).f2 == (v:Int))
   refine ⟨R',h,bB ?_⟩
   simp only [bC.l1,if_pos (show (v:Int) < 8 by omega),if_pos (show 0≤(i:Int) by omega),if_pos (show (i:Int) < (l.length:Int) by omega),if_pos c]
   exact e
  ·obtain ⟨R',h,e⟩:=kj false
   refine ⟨R',h,bB ?_⟩
   simp only [bC.l1,if_pos (show (v:Int) < 8 by omega),if_pos (show 0≤(i:Int) by omega),if_pos (show (i:Int) < (l.length:Int) by omega),if_neg c]
   exact e
theorem vO (l:List bN) (hT:fT l=true) (hn:l.length≤1048576):∃ R',R'.length=8∧Ev (fun k=>bC.f k l) R':=by
 have hpos:=fH hT
 have hw:wrap64 ((l.length:Int) - 1)=(l.length:Int) - 1:=iB (by omega) (by omega)
 have main:∀ d i,i + d=l.length→∀ x3:List (List Bool),x3.length=i→r8 x3→∃ R',R'.length=8∧Ev (fun k=>bC.l0 k l x3 (i:Int)) R':=by
  intro d
  induction d with
  | zero =>
   intro i hi x3 h3 h8
   refine ⟨fW x3 ((l.length:Int) - 1),?_,bB ?_⟩
   ·have:=h8 (l.length - 1) (by omega)
    rw [show ((l.length:Int) - 1)=((l.length - 1:Nat):Int) from by omega]
    exact this
   ·simp only [bC.l0,if_neg (show ¬ (i:Int) < (l.length:Int) by omega),hw,if_pos (show 0≤(l.length:Int) - 1 by omega),if_pos (show (l.length:Int) - 1 < (x3.length:Int) by omega)]
    exact bA _
  | succ d ih =>
   intro i hi x3 h3 h8
   obtain ⟨R',h,e⟩:=wW l hT hn x3 i (by omega) h3 h8 (fun row hr=>ih (i + 1) (by omega) (x3 ++ [row]) (by simp [h3]) (fun p hp=>by
    simp only [List.length_append,List.length_singleton] at hp
    rw [List.getD_eq_getElem?_getD]
    by_cases hpl:p < x3.length
    ·rw [List.getElem?_append_left hpl,← List.getD_eq_getElem?_getD]
     exact h8 p hpl
    ·rw [List.getElem?_append_right (by omega),show p - x3.length=0 by omega]
     exact hr)) 8 0 (by omega) [] rfl
   refine ⟨R',h,bB ?_⟩
   simp only [bC.l0,if_pos (show (i:Int) < (l.length:Int) by omega)]
   exact e
 exact main l.length 0 (by omega) [] rfl (fun p hp=>by simp at hp)
theorem yY (l:List bN) (hT:fT l=true) (hn:l.length≤1048576):∃ r,Ev (fun k=>dJ.f k l) r:=by
 obtain ⟨is,h8,e⟩:=vO l hT hn
 have main:∀ d i,i + d=8→∀ out:List Int,out.length≤i→∃ r,Ev (fun k=>dJ.l0 k out is (i:Int)) r:=by
  intro d
  induction d with
  | zero =>
   intro i hi out ho
   refine ⟨out,bB ?_⟩
   simp only [dJ.l0,if_neg (show ¬ (i:Int) < 8 by omega)]
   exact bA _
  | succ d ih =>
   intro i hi out ho
   cases hb:cW false is (i:Int) with
   | true =>
    obtain ⟨r,e⟩:=ih (i + 1) (by omega) (out ++ [(i:Int)]) (by simp;omega)
    refine ⟨r,bB ?_⟩
    simp only [dJ.l0,if_pos (show (i:Int) < 8 by omega),if_pos (show 0≤(i:Int) by omega),if_pos (show (i:Int) < (is.length:Int) by omega),hb,if_true,if_pos (show out.length < 17592186044416 by omega),eH i (show i < 4611686018427387904 by omega)]
    exact e
   | false =>
    obtain ⟨r,e⟩:=ih (i + 1) (by omega) out (by omega)
    refine ⟨r,bB ?_⟩
    simp only [dJ.l0,if_pos (show (i:Int) < 8 by omega),if_pos (show 0≤(i:Int) by omega),if_pos (show (i:Int) < (is.length:Int) by omega),hb,Bool.false_eq_true,if_false,eH i (show i < 4611686018427387904 by omega)]
    exact e
 obtain ⟨r,e2⟩:=main 8 0 (by omega) [] (by simp)
 refine ⟨r,?_⟩
 unfold dJ.f
 simp only [Option.bind_some]
 refine bI (a:=true) (f:=fun k t104=>if t104=true then ((bC.f k l).bind fun t105=>(dJ.l0 k [] t105 0)) else some []) (by rw [← hT];exact oM l hn) ?_
 simp only [if_true]
 exact bI (f:=fun k t105=>dJ.l0 k [] t105 0) e e2
def nI (l:List bN):Nat→List Bool
 | 0=>[]
 | n + 1=>nI l n ++ [qu (aC l (n:Int)).f0 || (np (aC l (n:Int))).any fun p=>cW false (nI l n) p]
theorem gV (l:List bN) (n:Nat):(nI l n).length=n:=by
 induction n with
 | zero=>rfl
 | succ n ih=>simp [nI,ih]
theorem tJ (l:List bN) (hT:fT l=true) (hn:l.length≤1048576):Ev (fun k=>bP.f k l) (nI l l.length):=by
 have main:∀ i,i≤l.length→Ev (fun k=>bP.l0 k l (nI l i) (i:Int)) (nI l l.length):=by
  refine jV (fun k i=>bP.l0 k l (nI l i) (i:Int)) l.length _ (fun i hi h=>?_) ?_
  ·have hp:=dV l hT i hi
   have hl:=gV l i
   have inner:∀ ps:List Int,(∀ p∈ps,0≤p∧p≤(i:Int) - 1)→ps.length≤3→∀ d j,j + d=ps.length→∀ f:Bool,Ev (fun k=>bP.l0 k l (nI l i ++ [f || (ps.drop j).any fun p=>cW false (nI l i) p]) ((i + 1:Nat):Int)) (nI l l.length)→Ev (fun k=>bP.l1 k l (nI l i) (i:Int) f ps (j:Int)) (nI l l.length):=by
    intro ps hp hl3 d
    induction d with
    | zero =>
     intro j hj f e
     refine bB ?_
     simp only [bP.l1,if_neg (show ¬ (j:Int) < (ps.length:Int) by omega),if_pos (show (nI l i).length < 140737488355328 by omega),eH i (show i < 4611686018427387904 by omega)]
     rw [List.drop_of_length_le (by omega),List.any_nil,Bool.or_false] at e
     exact e
    | succ d ih =>
     intro j hj f e
     have hjl:j < ps.length:=by omega
     have hrd:rd ps (j:Int)=ps[j]:=by rw [dP,dM ps j _ hjl]
     rw [List.drop_eq_getElem_cons hjl,List.any_cons,← Bool.or_assoc] at e
     refine bB ?_
     cases f with
     | true =>
      simp only [bP.l1,if_pos (show (j:Int) < (ps.length:Int) by omega),if_true,eH j (show j < 4611686018427387904 by omega)]
      exact ih (j + 1) (by omega) true (by simpa using e)
     | false =>
      obtain ⟨p0,p1⟩:=hp _ (List.getElem_mem hjl)
      simp only [bP.l1,if_pos (show (j:Int) < (ps.length:Int) by omega),Bool.false_eq_true,if_false,if_pos (show 0≤(j:Int) by omega),hrd,if_pos p0,if_pos (show ps[j] < ((nI l i).length:Int) by omega),eH j (show j < 4611686018427387904 by omega)]
      exact ih (j + 1) (by omega) _ (by simpa using e)
   refine bB ?_
   simp only [bP.l0,if_pos (show (i:Int) < (l.length:Int) by omega),if_pos (show 0≤(i:Int) by omega),zQ,Option.bind_some]
   refine bI (f:=fun k t=>bP.l1 k l (nI l i) (i:Int) (qu (aC l (i:Int)).f0) t 0) (oP _) ?_
   exact inner _ hp (hF _) _ 0 (by rw [Nat.zero_add]) _ h
  ·refine bB ?_
   simp only [bP.l0,if_neg (show ¬ (l.length:Int) < (l.length:Int) by omega)]
   exact bA _
 exact main 0 (by omega)
theorem qC (l:List bN) (i:Nat):∀ n,i < n→cW false (nI l n) (i:Int)=(qu (aC l (i:Int)).f0 || (np (aC l (i:Int))).any fun p=>cW false (nI l i) p):=by
 intro n
 induction n with
 | zero=>intro h;omega
 | succ n ih =>
  intro h
  rw [fK]
  simp only [nI]
  rw [List.getD_eq_getElem?_getD]
  by_cases hin:i < n
  ·rw [List.getElem?_append_left (by rw [gV];exact hin),← List.getD_eq_getElem?_getD,← fK]
   exact ih hin
  ·obtain rfl:i=n:=by omega
   rw [List.getElem?_append_right (by rw [gV];omega),gV,Nat.sub_self]
   rfl
theorem wJ (l:List bN) (i n m:Nat) (h1:i < n) (h2:i < m):cW false (nI l n) (i:Int)=cW false (nI l m) (i:Int):=by rw [qC l i n h1,qC l i m h2]
theorem sM (o:Int):xW o=qu o:=by
 unfold xW qu
 by_cases h:o=19
 ·rw [if_pos h,decide_eq_true (Or.inl h)]
 ·rw [if_neg h]
  by_cases h2:o=20
  ·rw [decide_eq_true (Or.inr h2),beq_iff_eq.2 h2]
  ·rw [decide_eq_false (by omega),beq_eq_false_iff_ne.2 h2]
theorem iZ (o:Int):qu o=true↔o=19∨o=20:=by unfold qu;exact decide_eq_true_iff
theorem zA {o:Int} (h:uR o=true):o=2∨o=3∨o=4∨qu o=true:=by
 unfold uR at h
 by_cases h2:o=2
 ·exact Or.inl h2
 rw [if_neg h2] at h
 by_cases h3:o=3
 ·exact Or.inr (Or.inl h3)
 rw [if_neg h3] at h
 by_cases h4:o=4
 ·exact Or.inr (Or.inr (Or.inl h4))
 rw [if_neg h4,sM] at h
 exact Or.inr (Or.inr (Or.inr h))
theorem tA (l:List bN) (h:fT l=true) (i:Nat) (hi:i < l.length):lN (l.take i) (aC l (i:Int))=true:=by
 unfold fT at h
 rw [Bool.and_eq_true] at h
 exact pW l l.length 0 h.2 i (by omega) (by omega)
theorem pY (l:List bN) (i p:Nat) (h:p < i):aC (l.take i) (p:Int)=aC l (p:Int):=by
 unfold aC
 rw [List.getD_eq_getElem?_getD,List.getD_eq_getElem?_getD,List.getElem?_take,if_pos (by omega)]
theorem kC (l:List bN) (h:fT l=true) (i:Nat) (hi:i < l.length) (hq:qu (aC l (i:Int)).f0=true) :
  (0≤(aC l (i:Int)).f2∧(aC l (i:Int)).f2≤7)∧(1≤(aC l (i:Int)).f4∧(aC l (i:Int)).f4≤8)∧np (aC l (i:Int))=[(aC l (i:Int)).f3]∧(aC l (i:Int)).f1=1∧(aC l (aC l (i:Int)).f3).f1=1:=by
 have hn:=tA l h i hi
 have hp:=dV l h i hi
 have hnp:np (aC l (i:Int))=[(aC l (i:Int)).f3]:=by
  unfold np parts
  rw [if_pos (Or.inr (Or.inr hq))]
 rw [hnp] at hp
 have hp0:=hp _ (List.mem_singleton.2 rfl)
 have hq':=(iZ _).1 hq
 unfold lN at hn
 simp only [Bool.and_eq_true] at hn
 obtain ⟨_,_,_,_,ho⟩:=hn
 unfold lD at ho
 rw [if_neg (by omega),if_neg (by omega),if_neg (by omega),if_neg (by omega),if_neg (by omega),if_neg (by omega),if_neg (by omega),if_neg (by omega)] at ho
 simp only [Bool.and_eq_true,beq_iff_eq] at ho
 obtain ⟨h1,h2,h3,h4⟩:=ho
 refine ⟨of_decide_eq_true h1,of_decide_eq_true h2,hnp,h4,?_⟩
 unfold w3 at h3
 rw [hnp,if_pos (show 0 < [(aC l (i:Int)).f3].length by simp)] at h3
 obtain ⟨p,hp'⟩:=Int.eq_ofNat_of_zero_le hp0.1
 have:rd [(aC l (i:Int)).f3] ((0:Nat):Int)=(p:Int):=by rw [hp'];rfl
 rw [this,pY l i p (by omega)] at h3
 rw [hp']
 exact h3
abbrev rQ (l:List bN) (M:List Bool) (j:Nat):Prop:=cW false M (j:Int)=true∧qu (aC l (j:Int)).f0=true
structure snI (l:List bN) (M:List Bool) (i:Nat) (ws:List Int):Prop where
 at_:∀ j,j < i→rQ l M j→rd ws (aC l (j:Int)).f2=(aC l (j:Int)).f4
 one:∀ j j',j < i→j' < i→rQ l M j→rQ l M j'→(aC l (j:Int)).f2=(aC l (j':Int)).f2→j=j'
 has:∀ v:Nat,v < 8→rd ws (v:Int)≠0→∃ j,j < i∧rQ l M j∧(aC l (j:Int)).f2=(v:Int)
theorem lT (ws:List Int) (K v:Int) (j:Int) (hK:0≤K) (hj:0≤j) (hl:K < (ws.length:Int)):rd (ws.set K.toNat v) j=if j=K then v else rd ws j:=by
 unfold rd
 rw [List.getD_eq_getElem?_getD,List.getD_eq_getElem?_getD,List.getElem?_set]
 by_cases e:j=K
 ·subst e
  rw [if_pos rfl,if_pos rfl,if_pos (by omega)]
  rfl
 ·rw [if_neg e,if_neg (by omega)]
theorem aBO (l:List bN) (hT:fT l=true) (hn:l.length≤1048576) (M:List Bool) (hM:M.length=l.length):∀ d i,i + d=l.length→∀ ws:List Int,ws.length=8→snI l M i ws→∃ o,Ev (fun k=>wB k l M (i:Int) ws) o∧∀ ws',o=some ws'→ws'.length=8∧snI l M l.length ws':=by
 intro d
 induction d with
 | zero =>
  intro i hi ws hw I
  obtain rfl:i=l.length:=by omega
  refine ⟨some ws,bB ?_,fun ws' e=>by cases e;exact ⟨hw,I⟩⟩
  simp only [wB,if_neg (show ¬ (l.length:Int) < (l.length:Int) by omega)]
  exact bA _
 | succ d ih =>
  intro i hi ws hw I
  by_cases c:cW false M (i:Int)=true∧xW (aC l (i:Int)).f0=true
  ·have hq:qu (aC l (i:Int)).f0=true:=by rw [← sM];exact c.2
   obtain ⟨k0,b0,_⟩:=kC l hT i (by omega) hq
   by_cases z:rd ws (aC l (i:Int)).f2=0
   ·refine Exists.elim (ih (i + 1) (by omega) (ws.set (aC l (i:Int)).f2.toNat (aC l (i:Int)).f4) (by rw [List.length_set];exact hw) ⟨fun j hj hQ=>?_,fun j j' hj hj' hQ hQ' he=>?_,fun v hv h=>?_⟩) (fun o eh_=>?_)
    rotate_right 1
    ·obtain ⟨e,h⟩:=eh_
     refine ⟨o,bB ?_,h⟩
     simp only [wB,if_pos (show (i:Int) < (l.length:Int) by omega),if_pos (show 0≤(i:Int)∧(i:Int) < (M.length:Int) by omega),if_pos c,if_pos (show 0≤(aC l (i:Int)).f2∧(aC l (i:Int)).f2 < (ws.length:Int) by omega),if_pos z,eH i (show i < 4611686018427387904 by omega)]
     exact e
    ·have kj:=(kC l hT j (by omega) hQ.2).1
     rw [lT _ _ _ _ k0.1 kj.1 (by omega)]
     by_cases hji:j=i
     ·subst hji
      rw [if_pos rfl]
     ·have h1:=I.at_ j (by omega) hQ
      have h2:=(kC l hT j (by omega) hQ.2).2.1
      rw [if_neg (fun e=>by rw [e] at h1;omega)]
      exact h1
    ·have key:∀ j,j < i→rQ l M j→(aC l (j:Int)).f2≠(aC l (i:Int)).f2:=fun j hj hQ e=>by
      have h1:=I.at_ j hj hQ
      have h2:=(kC l hT j (by omega) hQ.2).2.1
      rw [e] at h1
      omega
     by_cases h1:j=i
     ·by_cases h2:j'=i
      ·omega
      ·subst h1
       exact absurd he.symm (key j' (by omega) hQ')
     ·by_cases h2:j'=i
      ·subst h2
       exact absurd he (key j (by omega) hQ)
      ·exact I.one j j' (by omega) (by omega) hQ hQ' he
    ·rw [lT _ _ _ _ k0.1 (by omega) (by omega)] at h
     by_cases e:(v:Int)=(aC l (i:Int)).f2
     ·exact ⟨i,by omega,⟨c.1,hq⟩,e.symm⟩
     ·rw [if_neg e] at h
      obtain ⟨j,h1,h2,h3⟩:=I.has v hv h
      exact ⟨j,by omega,h2,h3⟩
   ·refine ⟨none,bB ?_,fun ws' e=>by cases e⟩
    simp only [wB,if_pos (show (i:Int) < (l.length:Int) by omega),if_pos (show 0≤(i:Int)∧(i:Int) < (M.length:Int) by omega),if_pos c,if_pos (show 0≤(aC l (i:Int)).f2∧(aC l (i:Int)).f2 < (ws.length:Int) by omega),if_neg z]
    exact bA _
  ·have hno:∀ j,j < i + 1→rQ l M j→j < i:=fun j hj hQ=>by
    rcases Nat.lt_succ_iff_lt_or_eq.1 hj with h|rfl
    ·exact h
    ·exact absurd ⟨hQ.1,by rw [sM];exact hQ.2⟩ c
   obtain ⟨o,e,h⟩:=ih (i + 1) (by omega) ws hw ⟨fun j hj hQ=>I.at_ j (hno j hj hQ) hQ,fun j j' hj hj' hQ hQ' he=>I.one j j' (hno j hj hQ) (hno j' hj' hQ') hQ hQ' he,fun v hv h=>by
    obtain ⟨j,h1,h2⟩:=I.has v hv h
    exact ⟨j,by omega,h2⟩⟩
   refine ⟨o,bB ?_,h⟩
   simp only [wB,if_pos (show (i:Int) < (l.length:Int) by omega),if_pos (show 0≤(i:Int)∧(i:Int) < (M.length:Int) by omega),if_neg c,eH i (show i < 4611686018427387904 by omega)]
   exact e
def oG (l:List bN) (M:List Bool):Nat→Nat→Nat
 | 0,_=>0
 | i + 1,p=>oG l M i p + (if cW false M (i:Int)=true then (np (aC l (i:Int))).count (p:Int) else 0)
theorem zK (l:List bN) (M:List Bool) (p:Nat):∀ i,oG l M i p≤3 * i:=by
 intro i
 induction i with
 | zero=>simp [oG]
 | succ i ih =>
  simp only [oG]
  have h1:=hF (aC l (i:Int))
  have h2:=List.count_le_length (a:=(p:Int)) (l:=np (aC l (i:Int)))
  split <;> omega
theorem aAA (n:Nat) (hn:n≤1048576) (ps:List Int) (hl:ps.length≤3) (hp:∀ p∈ps,0≤p∧p < (n:Int)):∀ d j,j + d=ps.length→∀ us:List Int,us.length=n→(∀ p:Nat,p < n→0≤rd us (p:Int)∧rd us (p:Int)≤4000000 + (j:Int)) →
  ∃ us',Ev (fun k=>zI k ps (j:Int) us) us'∧us'.length=n∧∀ p:Nat,p < n→rd us' (p:Int)=rd us (p:Int) + (((ps.drop j).count (p:Int):Nat):Int):=by
 intro d
 induction d with
 | zero =>
  intro j hj us hu hb
  refine ⟨us,bB ?_,hu,fun p hp=>by rw [List.drop_of_length_le (by omega)];simp⟩
  simp only [zI,if_neg (show ¬ (j:Int) < (ps.length:Int) by omega)]
  exact bA _
 | succ d ih =>
  intro j hj us hu hb
  have hjl:j < ps.length:=by omega
  have hr:rd ps (j:Int)=ps[j]:=by rw [dP,dM ps j _ hjl]
  obtain ⟨p0,p1⟩:=hp _ (List.getElem_mem hjl)
  obtain ⟨q,hq⟩:=Int.eq_ofNat_of_zero_le p0
  have hbq:=hb q (by omega)
  have hw:wrap64 (rd us ps[j] + 1)=rd us ps[j] + 1:=by rw [hq];exact iB (by omega) (by omega)
  obtain ⟨us',e,h1,h2⟩:=ih (j + 1) (by omega) (us.set ps[j].toNat (rd us ps[j] + 1)) (by rw [List.length_set];exact hu) (fun p hp=>by
   rw [lT us _ _ _ p0 (by omega) (by omega)]
   have:=hb p hp
   split
   ·rename_i e
    rw [hq]
    omega
   ·omega)
  refine ⟨us',bB ?_,h1,fun p hp=>?_⟩
  ·simp only [zI,if_pos (show (j:Int) < (ps.length:Int) by omega),hr,if_pos (show 0≤(j:Int)∧(0≤ps[j]∧ps[j] < (us.length:Int)) by omega),hw,eH j (show j < 4611686018427387904 by omega)]
   exact e
  ·rw [h2 p hp,lT us _ _ _ p0 (by omega) (by omega),List.drop_eq_getElem_cons hjl,List.count_cons]
   by_cases e:(p:Int)=ps[j]
   ·rw [if_pos e,if_pos (by simp [e]),e]
    push_cast
    omega
   ·rw [if_neg e,if_neg (by simpa using fun h=>e h.symm)]
    push_cast
    omega
structure snV (l:List bN) (M H:List Bool) (ws us:List Int) (i:Nat):Prop where
 us:∀ p:Nat,p < l.length→rd us (p:Int)=((oG l M i p:Nat):Int)
 var:∀ j,j < i→cW false M (j:Int)=true→(aC l (j:Int)).f0=1→rd ws (aC l (j:Int)).f2=(aC l (j:Int)).f1
 out:∀ j,j < i→cW false M (j:Int)=true→cW false H (j:Int)=true→uR (aC l (j:Int)).f0=true
theorem aAX (l:List bN) (hT:fT l=true) (hn:l.length≤1048576) (M H:List Bool) (hM:M.length=l.length) (hH:H.length=l.length) (ws:List Int) (hw:ws.length=8):∀ d i,i + d=l.length→∀ us:List Int,us.length=l.length→snV l M H ws us i→∃ o,Ev (fun k=>rP k l M H ws (i:Int) us) o∧∀ us',o=some us'→us'.length=l.length∧snV l M H ws us' l.length:=by
 intro d
 induction d with
 | zero =>
  intro i hi us hu I
  obtain rfl:i=l.length:=by omega
  refine ⟨some us,bB ?_,fun us' e=>by cases e;exact ⟨hu,I⟩⟩
  simp only [rP,if_neg (show ¬ (l.length:Int) < (l.length:Int) by omega)]
  exact bA _
 | succ d ih =>
  intro i hi us hu I
  have hi':i < l.length:=by omega
  cases hm:cW false M (i:Int) with
  | false =>
   refine Exists.elim (ih (i + 1) (by omega) us hu ⟨fun p hp=>by rw [I.us p hp];simp [oG,hm],fun j hj hm1 hm2=>?_,fun j hj hm1 hm2=>?_⟩) (fun o eh_=>?_)
   rotate_right 1
   ·obtain ⟨e,h⟩:=eh_
    refine ⟨o,bB ?_,h⟩
    simp only [rP,if_pos (show (i:Int) < (l.length:Int) by omega),if_pos (show 0≤(i:Int)∧((i:Int) < (M.length:Int)∧(i:Int) < (H.length:Int)) by omega),hm,Bool.false_eq_true,if_false,eH i (show i < 4611686018427387904 by omega)]
    exact e
   ·rcases Nat.lt_succ_iff_lt_or_eq.1 hj with h|rfl
    ·exact I.var j h hm1 hm2
    ·rw [hm] at hm1;cases hm1
   ·rcases Nat.lt_succ_iff_lt_or_eq.1 hj with h|rfl
    ·exact I.out j h hm1 hm2
    ·rw [hm] at hm1;cases hm1
  | true =>
   have hv:(aC l (i:Int)).f0=1→0≤(aC l (i:Int)).f2∧(aC l (i:Int)).f2 < (ws.length:Int):=fun h=>by have:=lC l hT i hi' h;omega
   by_cases c:((aC l (i:Int)).f0=1∧rd ws (aC l (i:Int)).f2≠(aC l (i:Int)).f1)∨(cW false H (i:Int)=true∧uR (aC l (i:Int)).f0=false)
   ·refine ⟨none,bB ?_,fun us' e=>by cases e⟩
    simp only [rP,if_pos (show (i:Int) < (l.length:Int) by omega),if_pos (show 0≤(i:Int)∧((i:Int) < (M.length:Int)∧(i:Int) < (H.length:Int)) by omega),hm,if_true,if_pos hv,if_pos c]
    exact bA _
   ·have hpp:=dV l hT i hi'
    obtain ⟨us1,e1,h1,h2⟩:=aAA l.length hn (np (aC l (i:Int))) (hF _) (fun p hp=>by have:=hpp p hp;omega) _ 0 (by rw [Nat.zero_add]) us hu (fun p hp=>by rw [I.us p hp];have:=zK l M p i;omega)
    refine Exists.elim (ih (i + 1) (by omega) us1 h1 ⟨fun p hp=>by rw [h2 p hp,I.us p hp,List.drop_zero];simp [oG,hm],fun j hj hm1 hm2=>?_,fun j hj hm1 hm2=>?_⟩) (fun o eh_=>?_)
    rotate_right 1
    ·obtain ⟨e,h⟩:=eh_
     refine ⟨o,bB ?_,h⟩
     simp only [rP,if_pos (show (i:Int) < (l.length:Int) by omega),if_pos (show 0≤(i:Int)∧((i:Int) < (M.length:Int)∧(i:Int) < (H.length:Int)) by omega),hm,if_true,if_pos hv,if_neg c,eH i (show i < 4611686018427387904 by omega)]
     exact bI (f:=fun k ps=>(zI k ps 0 us).bind fun us'=>rP k l M H ws ((i + 1:Nat):Int) us') (oP _) (bI (f:=fun k us'=>rP k l M H ws ((i + 1:Nat):Int) us') e1 e)
    ·rcases Nat.lt_succ_iff_lt_or_eq.1 hj with h|rfl
     ·exact I.var j h hm1 hm2
     ·exact Classical.byContradiction fun h=>c (Or.inl ⟨hm2,h⟩)
    ·rcases Nat.lt_succ_iff_lt_or_eq.1 hj with h|rfl
     ·exact I.out j h hm1 hm2
     ·exact Classical.byContradiction fun h=>c (Or.inr ⟨hm2,by simpa using h⟩)
theorem aCK (l:List bN) (hn:l.length≤1048576) (M H:List Bool) (hM:M.length=l.length) (hH:H.length=l.length) (us:List Int) (hu:us.length=l.length):∀ d i,i + d=l.length→∃ b,Ev (fun k=>rX k l M H us (i:Int)) b∧(b=true→∀ j,i≤j→j < l.length→cW false M (j:Int)=true→cW false H (j:Int)=true→rd us (j:Int)≤1):=by
 intro d
 induction d with
 | zero =>
  intro i hi
  refine ⟨true,bB ?_,fun _ j h1 h2=>by omega⟩
  simp only [rX,if_neg (show ¬ (i:Int) < (l.length:Int) by omega)]
  exact bA _
 | succ d ih =>
  intro i hi
  obtain ⟨b,e,h⟩:=ih (i + 1) (by omega)
  by_cases c:cW false M (i:Int)=true∧(cW false H (i:Int)=true∧1 < rd us (i:Int))
  ·refine ⟨false,bB ?_,fun h=>by cases h⟩
   simp only [rX,if_pos (show (i:Int) < (l.length:Int) by omega),if_pos (show 0≤(i:Int)∧((i:Int) < (M.length:Int)∧((i:Int) < (H.length:Int)∧(i:Int) < (us.length:Int))) by omega),if_pos c]
   exact bA _
  ·refine ⟨b,bB ?_,fun hb j h1 h2 hm hh=>?_⟩
   ·simp only [rX,if_pos (show (i:Int) < (l.length:Int) by omega),if_pos (show 0≤(i:Int)∧((i:Int) < (M.length:Int)∧((i:Int) < (H.length:Int)∧(i:Int) < (us.length:Int))) by omega),if_neg c,eH i (show i < 4611686018427387904 by omega)]
    exact e
   ·rcases Nat.lt_or_ge i j with h3|h3
    ·exact h hb j (by omega) h2 hm hh
    ·obtain rfl:j=i:=by omega
     exact Classical.byContradiction fun h4=>c ⟨hm,hh,by omega⟩
abbrev gR (l:List bN):List Bool:=mA l l.length (lU l.length)
abbrev iD (l:List bN):List Bool:=nI l l.length
structure lO (l:List bN):Prop where
 tm:fT l=true
 root:(aC l ((l.length:Int) - 1)).f1=1
 ws:∃ ws:List Int,ws.length=8∧snI l (gR l) l.length ws∧∀ j,j < l.length→cW false (gR l) (j:Int)=true→(aC l (j:Int)).f0=1→rd ws (aC l (j:Int)).f2=(aC l (j:Int)).f1
 out:∀ j,j < l.length→cW false (gR l) (j:Int)=true→cW false (iD l) (j:Int)=true→uR (aC l (j:Int)).f0=true
 use:∀ j,j < l.length→cW false (gR l) (j:Int)=true→cW false (iD l) (j:Int)=true→oG l (gR l) l.length j≤1
theorem sZ (l:List bN) (hn:l.length≤1048576):∃ b,Ev (fun k=>cN.f k l) b∧(b=true→lO l):=by
 unfold cN.f
 cases hT:fT l with
 | false =>
  refine ⟨false,bI (a:=false) (f:=fun k t=>if t=true then _ else some false) (by rw [← hT];exact oM l hn) ?_,fun h=>by cases h⟩
  simp only [Bool.false_eq_true,if_false]
  exact bA _
 | true =>
  have hpos:=fH hT
  have hl80:l.length≤80:=by
   have h:=hT
   unfold fT at h
   rw [Bool.and_eq_true] at h
   have:=of_decide_eq_true h.1
   omega
  have hw:wrap64 ((l.length:Int) - 1)=(l.length:Int) - 1:=iB (by omega) (by omega)
  have key:∃ b,Ev (fun k=>if 0≤wrap64 ((l.length:Int) - 1)∧wrap64 ((l.length:Int) - 1) < (l.length:Int) then (if (aC l (wrap64 ((l.length:Int) - 1))).f1=1 then (dJ.f k l).bind fun fr=>if 0 < fr.length then some false else (bG.f k l).bind fun is=>(bP.f k l).bind fun hs=>yM k l is hs else some false) else none) b∧(b=true→lO l):=by
   simp only [hw,if_pos (show 0≤(l.length:Int) - 1∧(l.length:Int) - 1 < (l.length:Int) by omega)]
   by_cases hr:(aC l ((l.length:Int) - 1)).f1=1
   case neg =>
    refine ⟨false,?_,fun h=>by cases h⟩
    simp only [if_neg hr]
    exact bA _
   simp only [if_pos hr]
   obtain ⟨fr,ef⟩:=yY l hT hn
   by_cases hf:0 < fr.length
   ·refine ⟨false,bI (f:=fun k fr=>if 0 < fr.length then some false else (bG.f k l).bind fun is=>(bP.f k l).bind fun hs=>yM k l is hs) ef ?_,fun h=>by cases h⟩
    simp only [if_pos hf]
    exact bA _
   have hM:(gR l).length=l.length:=by rw [iT,fF]
   have hH:(iD l).length=l.length:=gV l l.length
   obtain ⟨o,ew,hw2⟩:=aBO l hT hn (gR l) hM l.length 0 (by omega) (List.replicate 8 0) rfl ⟨fun j hj=>by omega,fun j j' hj=>by omega,fun v hv h=>by
    rw [dP,List.getD_eq_getElem?_getD,List.getElem?_replicate,if_pos hv] at h
    exact absurd rfl h⟩
   have kR:∃ b,Ev (fun k=>yM k l (gR l) (iD l)) b∧(b=true→lO l):=by
    unfold yM
    cases o with
    | none =>
     refine ⟨false,bI (f:=fun k o=>match o with|none=>some false|some ws=>if l.length < 17592186044416 then (rP k l (gR l) (iD l) ws 0 (List.replicate l.length 0)).bind fun o=>match o with|none=>some false|some us=>rX k l (gR l) (iD l) us 0 else none) ew (bA _),fun h=>by cases h⟩
    | some ws =>
     obtain ⟨hw8,I⟩:=hw2 ws rfl
     obtain ⟨o2,eu,hu2⟩:=aAX l hT hn (gR l) (iD l) hM hH ws hw8 l.length 0 (by omega) (List.replicate l.length 0) (by simp) ⟨fun p hp=>by
      rw [dP,List.getD_eq_getElem?_getD,List.getElem?_replicate,if_pos hp]
      rfl,fun j hj=>by omega,fun j hj=>by omega⟩
     cases o2 with
     | none =>
      refine ⟨false,bI (f:=fun k o=>match o with|none=>some false|some ws=>if l.length < 17592186044416 then (rP k l (gR l) (iD l) ws 0 (List.replicate l.length 0)).bind fun o=>match o with|none=>some false|some us=>rX k l (gR l) (iD l) us 0 else none) ew ?_,fun h=>by cases h⟩
      simp only [if_pos (show l.length < 17592186044416 by omega)]
      exact bI (f:=fun k o=>match o with|none=>some false|some us=>rX k l (gR l) (iD l) us 0) eu (bA _)
     | some us =>
      obtain ⟨hul,V⟩:=hu2 us rfl
      obtain ⟨b,eh,hb⟩:=aCK l hn (gR l) (iD l) hM hH us hul l.length 0 (by omega)
      refine ⟨b,bI (f:=fun k o=>match o with|none=>some false|some ws=>if l.length < 17592186044416 then (rP k l (gR l) (iD l) ws 0 (List.replicate l.length 0)).bind fun o=>match o with|none=>some false|some us=>rX k l (gR l) (iD l) us 0 else none) ew ?_,fun h=>⟨hT,hr,⟨ws,hw8,I,fun j hj=>V.var j hj⟩,fun j hj=>V.out j hj,fun j hj h1 h2=>by
       have h3:=hb h j (by omega) hj h1 h2
       rw [V.us j hj] at h3
       omega⟩⟩
      simp only [if_pos (show l.length < 17592186044416 by omega)]
      exact bI (f:=fun k o=>match o with|none=>some false|some us=>rX k l (gR l) (iD l) us 0) eu eh
   obtain ⟨b,eb,hb⟩:=kR
   refine ⟨b,bI (f:=fun k fr=>if 0 < fr.length then some false else (bG.f k l).bind fun is=>(bP.f k l).bind fun hs=>yM k l is hs) ef ?_,hb⟩
   simp only [if_neg hf]
   exact bI (f:=fun k is=>(bP.f k l).bind fun hs=>yM k l is hs) (pA l hT hn) (bI (f:=fun k hs=>yM k l (gR l) hs) (tJ l hT hn) eb)
  obtain ⟨b,e,h⟩:=key
  refine ⟨b,bI (a:=true) (f:=fun k t=>if t=true then _ else some false) (by rw [← hT];exact oM l hn) ?_,h⟩
  simp only [if_true]
  exact e
theorem uU (l:List bN) (ms:List Bool) (ws:List Int):∀ d i,rO l ms ws d i=true→∀ j,i≤j→j < i + d→qu (aC l (j:Int)).f0=false:=by
 intro d
 induction d with
 | zero=>intro i _ j h1 h2;omega
 | succ d ih =>
  intro i h j h1 h2
  simp only [rO,Bool.and_eq_true] at h
  rcases Nat.lt_or_ge i j with h3|h3
  ·exact ih (i + 1) h.2.2 j (by omega) (by omega)
  ·obtain rfl:j=i:=by omega
   simpa using h.1
noncomputable def yK (o W K A B C w a b c:Int):Int:=if h : -9223372036854775808≤K∧K≤9223372036854775807 then Classical.choose (tE o W K A B C w a b c h) else 0
theorem mX (o W K A B C w a b c:Int) (h : -9223372036854775808≤K∧K≤9223372036854775807):Ev (fun k=>bL.f k o W K A B C w a b c) (yK o W K A B C w a b c)∧Ev (fun k=>cG.f k o W K A B C w a b c) (yK o W K A B C w a b c):=by
 unfold yK
 rw [dif_pos h]
 exact Classical.choose_spec (tE o W K A B C w a b c h)
def v3 (vs:List Int) (ps:List Int) (q:Nat):Int:=if q < ps.length then rd vs (rd ps (q:Int)) else 0
def qL (l:List bN) (ps:List Int):Int:=if 0 < ps.length then (aC l (rd ps 0)).f1 else 1
noncomputable def oW (l:List bN) (e vs:List Int) (x:bN):Int :=
 if x.f0=1 then rd e x.f2 else yK x.f0 x.f1 x.f2 x.f3 x.f4 x.f5 (qL l (np x)) (v3 vs (np x) 0) (v3 vs (np x) 1) (v3 vs (np x) 2)
noncomputable def eL (l:List bN) (e:List Int):Nat→List Int
 | 0=>[]
 | i + 1=>eL l e i ++ [oW l e (eL l e i) (aC l (i:Int))]
theorem fM (l:List bN) (e:List Int) (i:Nat):(eL l e i).length=i:=by
 induction i with
 | zero=>rfl
 | succ i ih=>simp [eL,ih]
theorem aCB (k:Nat) (l:List bN) (vs:List Int) (hv:vs.length≤l.length) (o a b c:Int) (hp:∀ p∈parts o a b c,0≤p∧p < (vs.length:Int)) :
  uS (k + 4) l vs (parts o a b c) 0 1 [0,0,0]=some (qL l (parts o a b c),[v3 vs (parts o a b c) 0,v3 vs (parts o a b c) 1,v3 vs (parts o a b c) 2]):=by
 have h01:wrap64 1=1:=by unfold wrap64;omega
 have h12:wrap64 2=2:=by unfold wrap64;omega
 have h23:wrap64 3=3:=by unfold wrap64;omega
 have len:parts o a b c=[]∨parts o a b c=[a]∨parts o a b c=[a,b]∨parts o a b c=[a,b,c]:=by
  unfold parts
  repeat' split
  all_goals simp
 rcases len with e|e|e|e <;> rw [e] at hp ⊢
 ·simp [uS,qL,v3]
 ·have h1:=hp a (by simp)
  have g1:a < (l.length:Int):=by omega
  simp [uS,qL,v3,rd,h01,h1,g1]
 ·have h1:=hp a (by simp)
  have h2:=hp b (by simp)
  have g1:a < (l.length:Int):=by omega
  simp [uS,qL,v3,rd,h01,h12,h1,h2,g1]
 ·have h1:=hp a (by simp)
  have h2:=hp b (by simp)
  have h3:=hp c (by simp)
  have g1:a < (l.length:Int):=by omega
  simp [uS,qL,v3,rd,h01,h12,h23,h1,h2,h3,g1]
theorem aEP (l:List bN) (hT:fT l=true) (hn:l.length≤1048576) (e vs:List Int) (he:e.length=8) (i:Nat) (hi:i < l.length) (hv:vs.length=i) (hq:qu (aC l (i:Int)).f0=false) (hK : -9223372036854775808≤(aC l (i:Int)).f2∧(aC l (i:Int)).f2≤9223372036854775807) :
  Ev (fun k=>gC.f k l e vs (i:Int)) (oW l e vs (aC l (i:Int))):=by
 have hpp:=dV l hT i hi
 unfold gC.f oW
 simp only [if_pos (show 0≤(i:Int)∧(i:Int) < (l.length:Int) by omega)]
 by_cases ho:(aC l (i:Int)).f0=1
 ·have hx:=lC l hT i hi ho
  simp only [if_pos ho,if_pos (show 0≤(aC l (i:Int)).f2∧(aC l (i:Int)).f2 < (e.length:Int) by omega)]
  exact bA _
 ·simp only [if_neg ho,zQ,hq,Option.bind_some,Bool.false_eq_true,if_false]
  refine bI (a:=np (aC l (i:Int))) (f:=fun k ps=>(uS k l vs ps 0 1 [0,0,0]).bind fun q=>cG.f k (aC l (i:Int)).f0 (aC l (i:Int)).f1 (aC l (i:Int)).f2 (aC l (i:Int)).f3 (aC l (i:Int)).f4 (aC l (i:Int)).f5 q.1 (rd q.2 0) (rd q.2 1) (rd q.2 2)) (iF (f:=fun _=>some (np (aC l (i:Int)))) (fun k=>pQ k _ _ _ _ _ _) (bA _)) ?_
  refine bI (a:=(qL l (np (aC l (i:Int))),[v3 vs (np (aC l (i:Int))) 0,v3 vs (np (aC l (i:Int))) 1,v3 vs (np (aC l (i:Int))) 2])) (f:=fun k q=>cG.f k (aC l (i:Int)).f0 (aC l (i:Int)).f1 (aC l (i:Int)).f2 (aC l (i:Int)).f3 (aC l (i:Int)).f4 (aC l (i:Int)).f5 q.1 (rd q.2 0) (rd q.2 1) (rd q.2 2)) ⟨4,fun k hk=>?_⟩ ?_
  ·obtain ⟨m,rfl⟩:∃ m,k=m + 4:=⟨k - 4,by omega⟩
   exact aCB m l vs (by omega) _ _ _ _ (fun p hp=>by have:=hpp p hp;omega)
  ·exact (mX _ _ _ _ _ _ _ _ _ _ hK).2
theorem atS (l:List bN) (hT:fT l=true) (hn:l.length≤1048576) (e:List Int) (he:e.length=8) (hq:∀ j:Nat,j < l.length→qu (aC l (j:Int)).f0=false) (hK:∀ j:Nat,j < l.length → -9223372036854775808≤(aC l (j:Int)).f2∧(aC l (j:Int)).f2≤9223372036854775807) :
  Ev (fun k=>eX.f k l e ((l.length:Int) - 1)) (rd (eL l e l.length) ((l.length:Int) - 1)):=by
 have hp:=fH hT
 have main:∀ j,j≤l.length→Ev (fun k=>uY l e ((l.length:Int) - 1) k (eL l e j) (j:Int)) (rd (eL l e l.length) ((l.length:Int) - 1)):=by
  refine jV (fun k j=>uY l e ((l.length:Int) - 1) k (eL l e j) (j:Int)) l.length _ (fun j hj h=>?_) ?_
  ·refine bB ?_
   simp only [uY,if_pos (show (j:Int)≤(l.length:Int) - 1 by omega)]
   refine bI (a:=oW l e (eL l e j) (aC l (j:Int))) (f:=fun k v=>if (eL l e j).length < 17592186044416 then uY l e ((l.length:Int) - 1) k (eL l e j ++ [v]) (wrap64 ((j:Int) + 1)) else none) (aEP l hT hn e (eL l e j) he j hj (fM l e j) (hq j hj) (hK j hj)) ?_
   simp only [fM,if_pos (show j < 17592186044416 by omega),eH j (show j < 4611686018427387904 by omega)]
   exact h
  ·refine bB ?_
   simp only [uY,if_neg (show ¬ (l.length:Int)≤(l.length:Int) - 1 by omega),fM,if_pos (show 0≤(l.length:Int) - 1∧(l.length:Int) - 1 < (l.length:Int) by omega)]
   exact bA _
 exact main 0 (by omega)
theorem gZ (l:List bN) (e:List Int) (i:Nat):∀ n,i < n→(eL l e n).getD i 0=oW l e (eL l e i) (aC l (i:Int)):=by
 intro n
 induction n with
 | zero=>intro h;omega
 | succ n ih =>
  intro h
  simp only [eL]
  rw [List.getD_eq_getElem?_getD]
  rcases Nat.lt_or_ge i n with h1|h1
  ·rw [List.getElem?_append_left (by rw [fM];exact h1),← List.getD_eq_getElem?_getD]
   exact ih h1
  ·obtain rfl:i=n:=by omega
   rw [List.getElem?_append_right (by rw [fM];omega),fM,Nat.sub_self]
   rfl
theorem kA (l:List bN) (e:List Int) (i n m:Nat) (h1:i < n) (h2:i < m):(eL l e n).getD i 0=(eL l e m).getD i 0:=by rw [gZ l e i n h1,gZ l e i m h2]
def qE (V kn:List Int):Prop:=kn.length=V.length∧∀ q:Nat,q < V.length→rd kn (q:Int) < 0∨rd kn (q:Int)=V.getD q 0
theorem rD {V kn:List Int} (h:qE V kn) (i:Nat):qE V (kn.set i (V.getD i 0)):=by
 refine ⟨by rw [List.length_set];exact h.1,fun q hq=>?_⟩
 rw [dP,List.getD_eq_getElem?_getD,List.getElem?_set]
 by_cases e:i=q
 ·subst e
  rw [if_pos rfl,if_pos (by rw [h.1];exact hq)]
  exact Or.inr rfl
 ·rw [if_neg e,← List.getD_eq_getElem?_getD,← dP]
  exact h.2 q hq
theorem aBT (l:List bN) (e V:List Int) (hV:V.length=l.length) (P:Int→Prop) (hP:∀ p,P p→0≤p∧p < (l.length:Int)) (ih:∀ p,P p→∀ kn,qE V kn→∃ kn',qE V kn'∧Ev (fun k=>xM k l e p kn) (rd V p,kn'))
  (o a b c:Int) (hp:∀ p∈parts o a b c,P p) (kn:List Int) (hk:qE V kn):∃ kn',qE V kn'∧Ev (fun k=>mL k l e (parts o a b c) kn 0 1 0 0 0) (kn',qL l (parts o a b c),v3 V (parts o a b c) 0,v3 V (parts o a b c) 1,v3 V (parts o a b c) 2):=by
 have len:parts o a b c=[]∨parts o a b c=[a]∨parts o a b c=[a,b]∨parts o a b c=[a,b,c]:=by
  unfold parts
  repeat' split
  all_goals simp
 rcases len with e1|e1|e1|e1 <;> rw [e1] at hp ⊢
 ·exact ⟨kn,hk,bB (by simp [mL,qL,v3];exact bA _)⟩
 ·obtain ⟨k1,h1,g1⟩:=ih a (hp a (by simp)) kn hk
  have b1:=hP a (hp a (by simp))
  refine ⟨k1,h1,bB ?_⟩
  simp only [mL,List.length_cons,List.length_nil,if_pos (show (0:Int) < ((0 + 1:Nat):Int) by decide),if_pos (show (0:Int)≤0 by decide),if_true]
  refine bI (a:=(rd V a,k1)) (f:=fun k q=>if 0≤rd [a] 0∧rd [a] 0 < (l.length:Int) then mL k l e [a] q.2 1 (aC l (rd [a] 0)).f1 q.1 0 0 else none) g1 ?_
  simp only [if_pos (show 0≤rd [a] 0∧rd [a] 0 < (l.length:Int) from b1)]
  exact bB (by simp [mL,qL,v3,rd];exact bA _)
 ·obtain ⟨k1,h1,g1⟩:=ih a (hp a (by simp)) kn hk
  obtain ⟨k2,h2,g2⟩:=ih b (hp b (by simp)) k1 h1
  have b1:=hP a (hp a (by simp))
  refine ⟨k2,h2,bB ?_⟩
  simp only [mL,List.length_cons,List.length_nil,if_pos (show (0:Int) < ((0 + 1 + 1:Nat):Int) by decide),if_pos (show (0:Int)≤0 by decide),if_true]
  refine bI (a:=(rd V a,k1)) (f:=fun k q=>if 0≤rd [a,b] 0∧rd [a,b] 0 < (l.length:Int) then mL k l e [a,b] q.2 1 (aC l (rd [a,b] 0)).f1 q.1 0 0 else none) g1 ?_
  simp only [if_pos (show 0≤rd [a,b] 0∧rd [a,b] 0 < (l.length:Int) from b1)]
  refine bB ?_
  simp only [mL,List.length_cons,List.length_nil,if_pos (show (1:Int) < ((0 + 1 + 1:Nat):Int) by decide),if_pos (show (0:Int)≤1 by decide),if_neg (show ¬ (1:Int)=0 by decide),if_true]
  refine bI (a:=(rd V b,k2)) (f:=fun k q=>mL k l e [a,b] q.2 2 (aC l (rd [a,b] 0)).f1 (rd V a) q.1 0) g2 ?_
  exact bB (by simp [mL,qL,v3,rd];exact bA _)
 ·obtain ⟨k1,h1,g1⟩:=ih a (hp a (by simp)) kn hk
  obtain ⟨k2,h2,g2⟩:=ih b (hp b (by simp)) k1 h1
  obtain ⟨k3,h3,g3⟩:=ih c (hp c (by simp)) k2 h2
  have b1:=hP a (hp a (by simp))
  refine ⟨k3,h3,bB ?_⟩
  simp only [mL,List.length_cons,List.length_nil,if_pos (show (0:Int) < ((0 + 1 + 1 + 1:Nat):Int) by decide),if_pos (show (0:Int)≤0 by decide),if_true]
  refine bI (a:=(rd V a,k1)) (f:=fun k q=>if 0≤rd [a,b,c] 0∧rd [a,b,c] 0 < (l.length:Int) then mL k l e [a,b,c] q.2 1 (aC l (rd [a,b,c] 0)).f1 q.1 0 0 else none) g1 ?_
  simp only [if_pos (show 0≤rd [a,b,c] 0∧rd [a,b,c] 0 < (l.length:Int) from b1)]
  refine bB ?_
  simp only [mL,List.length_cons,List.length_nil,if_pos (show (1:Int) < ((0 + 1 + 1 + 1:Nat):Int) by decide),if_pos (show (0:Int)≤1 by decide),if_neg (show ¬ (1:Int)=0 by decide),if_true]
  refine bI (a:=(rd V b,k2)) (f:=fun k q=>mL k l e [a,b,c] q.2 2 (aC l (rd [a,b,c] 0)).f1 (rd V a) q.1 0) g2 ?_
  refine bB ?_
  simp only [mL,List.length_cons,List.length_nil,if_pos (show (2:Int) < ((0 + 1 + 1 + 1:Nat):Int) by decide),if_pos (show (0:Int)≤2 by decide),if_neg (show ¬ (2:Int)=0 by decide),if_neg (show ¬ (2:Int)=1 by decide),if_true]
  refine bI (a:=(rd V c,k3)) (f:=fun k q=>mL k l e [a,b,c] q.2 3 (aC l (rd [a,b,c] 0)).f1 (rd V a) (rd V b) q.1) g3 ?_
  exact bB (by simp [mL,qL,v3,rd];exact bA _)
theorem vaE (l:List bN) (hT:fT l=true) (hn:l.length≤1048576) (e:List Int) (he:e.length=8) (hq:∀ j:Nat,j < l.length→qu (aC l (j:Int)).f0=false) (hK:∀ j:Nat,j < l.length → -9223372036854775808≤(aC l (j:Int)).f2∧(aC l (j:Int)).f2≤9223372036854775807) :
  ∀ i:Nat,i < l.length→∀ kn,qE (eL l e l.length) kn→∃ kn',qE (eL l e l.length) kn'∧Ev (fun k=>xM k l e (i:Int) kn) (rd (eL l e l.length) (i:Int),kn'):=by
 intro i
 induction i using Nat.strongRecOn with|ind i ih =>
 intro hi kn hk
 have hV:=fM l e l.length
 have hlen:=hk.1
 rw [hV] at hlen
 have hval:rd (eL l e l.length) (i:Int)=(eL l e l.length).getD i 0:=dP _ _
 by_cases h0:0≤rd kn (i:Int)
 ·refine ⟨kn,hk,bB ?_⟩
  simp only [xM,if_pos (show 0≤(i:Int)∧(i:Int) < (kn.length:Int) by omega),if_pos h0]
  rcases hk.2 i (by omega) with h|h
  ·omega
  ·rw [hval,h]
   exact bA _
 by_cases ho:(aC l (i:Int)).f0=1
 ·have hx:=lC l hT i hi ho
  refine ⟨kn.set i (rd (eL l e l.length) (i:Int)),by rw [hval];exact rD hk i,bB ?_⟩
  simp only [xM,if_pos (show 0≤(i:Int)∧(i:Int) < (kn.length:Int) by omega),if_neg h0,if_pos (show (i:Int) < (l.length:Int) by omega),if_pos ho,if_pos (show 0≤(aC l (i:Int)).f2∧(aC l (i:Int)).f2 < (e.length:Int) by omega),Int.toNat_natCast]
  rw [hval,gZ l e i l.length hi,oW,if_pos ho]
  exact bA _
 ·have hpp:=dV l hT i hi
  obtain ⟨kn',hk',g⟩:=aBT l e (eL l e l.length) hV (fun p=>0≤p∧p≤(i:Int) - 1) (fun p h=>by omega) (fun p h kn hk=>by
   obtain ⟨j,rfl⟩:=Int.eq_ofNat_of_zero_le h.1
   exact ih j (by omega) (by omega) kn hk) (aC l (i:Int)).f0 (aC l (i:Int)).f3 (aC l (i:Int)).f4 (aC l (i:Int)).f5 hpp kn hk
  have hv3:∀ q,v3 (eL l e l.length) (np (aC l (i:Int))) q=v3 (eL l e i) (np (aC l (i:Int))) q:=fun q=>by
   unfold v3
   by_cases h:q < (np (aC l (i:Int))).length
   ·rw [if_pos h,if_pos h]
    have hm:rd (np (aC l (i:Int))) (q:Int)∈np (aC l (i:Int)):=by rw [dP,dM _ q _ h];exact List.getElem_mem h
    have:=hpp _ hm
    obtain ⟨j,hj⟩:=Int.eq_ofNat_of_zero_le this.1
    rw [hj,dP,dP]
    exact kA l e j _ _ (by omega) (by omega)
   ·rw [if_neg h,if_neg h]
  refine ⟨kn'.set i (rd (eL l e l.length) (i:Int)),by rw [hval];exact rD hk' i,bB ?_⟩
  simp only [xM,if_pos (show 0≤(i:Int)∧(i:Int) < (kn.length:Int) by omega),if_neg h0,if_pos (show (i:Int) < (l.length:Int) by omega),if_neg ho,quI,hq i hi,Option.bind_some,Bool.false_eq_true,if_false,Int.toNat_natCast]
  refine bI (a:=np (aC l (i:Int))) (f:=fun k ps=>(mL k l e ps kn 0 1 0 0 0).bind fun q=>(bL.f k (aC l (i:Int)).f0 (aC l (i:Int)).f1 (aC l (i:Int)).f2 (aC l (i:Int)).f3 (aC l (i:Int)).f4 (aC l (i:Int)).f5 q.2.1 q.2.2.1 q.2.2.2.1 q.2.2.2.2).bind fun v=>some (v,q.1.set i v)) (iF (f:=fun _=>some (np (aC l (i:Int)))) (fun k=>qA k _ _ _ _ _ _) (bA _)) ?_
  refine bI (f:=fun k q=>(bL.f k (aC l (i:Int)).f0 (aC l (i:Int)).f1 (aC l (i:Int)).f2 (aC l (i:Int)).f3 (aC l (i:Int)).f4 (aC l (i:Int)).f5 q.2.1 q.2.2.1 q.2.2.2.1 q.2.2.2.2).bind fun v=>some (v,q.1.set i v)) g ?_
  refine bI (f:=fun k v=>some (v,kn'.set i v)) (mX _ _ _ _ _ _ _ _ _ _ (hK i hi)).1 ?_
  rw [hval,gZ l e i l.length hi,oW,if_neg ho]
  show Ev _ (yK _ _ _ _ _ _ (qL l (np (aC l (i:Int)))) (v3 (eL l e i) (np (aC l (i:Int))) 0) (v3 (eL l e i) (np (aC l (i:Int))) 1) (v3 (eL l e i) (np (aC l (i:Int))) 2),_)
  rw [← hv3 0,← hv3 1,← hv3 2]
  exact bA _
def mF (q:List eE) (t:Nat):Nat→Nat→Nat→List Int→List Int
 | 0,_,_,xs=>xs
 | d + 1,i,a,xs=>mF q t d (i + 1) (a - (aI q (i:Int)).f2.toNat) (xs.set (aI q (i:Int)).f1.toNat (((t / 2 ^ (a - (aI q (i:Int)).f2.toNat):Nat):Int) % (2:Int) ^ (aI q (i:Int)).f2.toNat))
theorem pX (q:List eE) (hw:∀ j:Nat,j < q.length→1≤(aI q (j:Int)).f2∧(aI q (j:Int)).f2≤8):∀ d i,i + d≤q.length→0≤kX q d i:=by
 intro d
 induction d with
 | zero=>intro i _;exact Int.le_refl _
 | succ d ih =>
  intro i hi
  have:=ih (i + 1) (by omega)
  have h:=hw i (by omega)
  simp only [kX]
  omega
theorem aAT (q:List eE) (hq:q.length≤1048576) (hw:∀ j:Nat,j < q.length→1≤(aI q (j:Int)).f2∧(aI q (j:Int)).f2≤8) (hv:∀ j:Nat,j < q.length→0≤(aI q (j:Int)).f1∧(aI q (j:Int)).f1≤7) (t:Nat) :
  ∀ d i,i + d=q.length→∀ (a:Nat) (xs:List Int),a≤12→kX q d i≤(a:Int)→xs.length=8→Ev (fun k=>zO k q (t:Int) (i:Int) (a:Int) xs) (mF q t d i a xs):=by
 intro d
 induction d with
 | zero =>
  intro i hi a xs _ _ _
  refine bB ?_
  simp only [zO,if_neg (show ¬ (i:Int) < (q.length:Int) by omega),mF]
  exact bA _
 | succ d ih =>
  intro i hi a xs ha hs hx
  have h1:=hw i (by omega)
  have h2:=hv i (by omega)
  have h3:=pX q hw d (i + 1) (by omega)
  simp only [kX] at hs
  obtain ⟨w,hw2⟩:=Int.eq_ofNat_of_zero_le (show 0≤(aI q (i:Int)).f2 by omega)
  have ea:wrap64 ((a:Int) - (aI q (i:Int)).f2)=((a - (aI q (i:Int)).f2.toNat:Nat):Int):=by unfold wrap64;omega
  have hle:a - (aI q (i:Int)).f2.toNat≤12:=by omega
  refine bB ?_
  simp only [zO,mF,if_pos (show (i:Int) < (q.length:Int) by omega),if_pos (show 0≤(i:Int) by omega),if_pos (show 0≤(aI q (i:Int)).f1∧(aI q (i:Int)).f1 < (xs.length:Int) by omega),ea,pI (show (0:Int)≤((a - (aI q (i:Int)).f2.toNat:Nat):Int) by omega) (by omega),if_pos (show (0:Int)≤((a - (aI q (i:Int)).f2.toNat:Nat):Int) by omega),eH i (show i < 4611686018427387904 by omega),mO t _ (show a - (aI q (i:Int)).f2.toNat≤60 by omega)]
  rw [hw2]
  simp only [nD w (by omega),Option.bind_some,Int.toNat_natCast]
  rw [hw2] at hs
  exact ih (i + 1) (by omega) (a - w) _ (by omega) (by omega) (by rw [List.length_set];exact hx)
theorem aCX (q:List eE) (l:List bN) (n:Int) (rs:List Int) (r:Int × ByteArray × Bool) (hq:q.length≤1048576) (hw:∀ j:Nat,j < q.length→1≤(aI q (j:Int)).f2∧(aI q (j:Int)).f2≤8) (hv:∀ j:Nat,j < q.length→0≤(aI q (j:Int)).f1∧(aI q (j:Int)).f1≤7) (t:Nat) (ht:t≤1048576) :
  ∀ d i,i + d=q.length→∀ (a:Nat) (xs:List Int),a≤12→kX q d i≤(a:Int)→xs.length=8 →
   Ev (fun k=>(eX.f k l (mF q t d i a xs) (wrap64 ((l.length:Int) - 1))).bind fun t117=>(if rs.length < 140737488355328 then (bJ.l0 k q l n (rs ++ [(wrap64 (48 + t117)) % 256]) (mF q t d i a xs) (wrap64 ((t:Int) + 1))) else (none))) r →
   Ev (fun k=>bJ.l1 k q l n rs xs (t:Int) (a:Int) (i:Int)) r:=by
 intro d
 induction d with
 | zero =>
  intro i hi a xs _ _ _ e
  refine bB ?_
  simp only [bJ.l1,if_neg (show ¬ (i:Int) < (q.length:Int) by omega)]
  exact e
 | succ d ih =>
  intro i hi a xs ha hs hx e
  have h1:=hw i (by omega)
  have h2:=hv i (by omega)
  have h3:=pX q hw d (i + 1) (by omega)
  simp only [kX] at hs
  obtain ⟨w,hw2⟩:=Int.eq_ofNat_of_zero_le (show 0≤(aI q (i:Int)).f2 by omega)
  have ea:wrap64 ((a:Int) - (aI q (i:Int)).f2)=((a - (aI q (i:Int)).f2.toNat:Nat):Int):=by unfold wrap64;omega
  have hz:∀ j:Nat,(2:Int) ^ j≠0:=fun j=>by
   have:(0:Int) < 2 ^ j:=Int.pow_pos (by decide)
   omega
  have hp:∀ j:Nat,j≤60→Ev (fun k=>aH.f k (j:Int)) ((2:Int) ^ j):=fun j hj=>lH j (fun k hk=>kO j hj k hk)
  have hd:wrap64 (Int.tdiv (t:Int) ((2:Int) ^ (a - w)))=((t / 2 ^ (a - w):Nat):Int):=by
   have e2:(t:Int) / (2:Int) ^ (a - w)=((t / 2 ^ (a - w):Nat):Int):=by push_cast;rfl
   have hle:t / 2 ^ (a - w)≤t:=Nat.div_le_self _ _
   rw [Int.tdiv_eq_ediv_of_nonneg (by omega),e2]
   generalize t / 2 ^ (a - w)=z at hle
   unfold wrap64
   omega
  refine bB ?_
  simp only [bJ.l1,if_pos (show (i:Int) < (q.length:Int) by omega),if_pos (show 0≤(i:Int) by omega),ea,if_pos h2.1,if_pos (show (aI q (i:Int)).f1 < (xs.length:Int) by omega),eH i (show i < 4611686018427387904 by omega)]
  simp only [mF,hw2,Int.toNat_natCast] at e ⊢
  refine bI (a:=(2:Int) ^ (a - w)) (f:=fun k t113=>if t113=0 then (none) else ((aH.f k (w:Int)).bind fun t115=>(if t115=0 then (none) else (bJ.l1 k q l n rs (xs.set (aI q (i:Int)).f1.toNat (Int.tmod (wrap64 (Int.tdiv (t:Int) t113)) t115)) (t:Int) ((a - w:Nat):Int) ((i + 1:Nat):Int))))) (hp (a - w) (by omega)) ?_
  simp only [if_neg (hz (a - w)),hd]
  refine bI (a:=(2:Int) ^ w) (f:=fun k t115=>if t115=0 then (none) else (bJ.l1 k q l n rs (xs.set (aI q (i:Int)).f1.toNat (Int.tmod (((t / 2 ^ (a - w):Nat):Int)) t115)) (t:Int) ((a - w:Nat):Int) ((i + 1:Nat):Int))) (hp w (by omega)) ?_
  simp only [if_neg (hz w)]
  rw [Int.tmod_eq_emod_of_nonneg (Int.natCast_nonneg _)]
  exact ih (i + 1) (by omega) (a - w) _ (by omega) (by omega) (by rw [List.length_set];exact hx) e
theorem nN (q:List eE) (t:Nat):∀ d i a (xs:List Int),(mF q t d i a xs).length=xs.length:=by
 intro d
 induction d with
 | zero=>intro i a xs;rfl
 | succ d ih=>intro i a xs;simp only [mF];rw [ih,List.length_set]
def qH (q:List eE) (n:Nat):Nat→List Int
 | 0=>List.replicate 8 0
 | t + 1=>mF q t q.length 0 n (qH q n t)
theorem gX (q:List eE) (n:Nat):∀ t,(qH q n t).length=8:=by
 intro t
 induction t with
 | zero=>rfl
 | succ t ih=>simp only [qH];rw [nN,ih]
noncomputable def jI (q:List eE) (l:List bN) (n t:Nat):Int:=rd (eL l (qH q n (t + 1)) l.length) ((l.length:Int) - 1)
noncomputable def oJ (q:List eE) (l:List bN) (n:Nat):List Int:=(List.range (2 ^ n)).map fun t=>48 + jI q l n t
theorem nC (q:List eE) (l:List bN) (n:Nat):(oJ q l n).length=2 ^ n:=by simp [oJ]
theorem kn0 (V:List Int):qE V (List.replicate V.length (-1)):=⟨List.length_replicate,fun q hq=>Or.inl (by rw [dP,dM _ q _ (by simpa using hq)];simp)⟩
theorem aDW (v:Int) (h:v=0∨v=1):jG.f v=some (48 + v):=by
 rcases h with rfl|rfl <;> decide +kernel
theorem aAR (q:List eE) (l:List bN) (n:Nat) (hn12:n≤12) (hq:q.length≤1048576) (hw:∀ j:Nat,j < q.length→1≤(aI q (j:Int)).f2∧(aI q (j:Int)).f2≤8) (hv:∀ j:Nat,j < q.length→0≤(aI q (j:Int)).f1∧(aI q (j:Int)).f1≤7) (hs:kX q q.length 0=(n:Int))
  (hT:fT l=true) (hn:l.length≤1048576) (hp:∀ j:Nat,j < l.length→qu (aC l (j:Int)).f0=false) (hK:∀ j:Nat,j < l.length → -9223372036854775808≤(aC l (j:Int)).f2∧(aC l (j:Int)).f2≤9223372036854775807) (hb:∀ t,t < 2 ^ n→jI q l n t=0∨jI q l n t=1) :
  Ev (fun k=>uP q l (n:Int) k 0 (List.replicate (2 ^ n) 0) (List.replicate 8 0)) (oJ q l n):=by
 have hpos:=fH hT
 have hN:2 ^ n≤4096:=Nat.le_trans (Nat.pow_le_pow_right (by decide) hn12) (by decide)
 have hsl:=nC q l n
 have hwl:wrap64 ((l.length:Int) - 1)=((l.length - 1:Nat):Int):=by unfold wrap64;omega
 have main:∀ j:Nat,j≤2 ^ n→Ev (fun k=>uP q l (n:Int) k (j:Int) ((oJ q l n).take j ++ (List.replicate (2 ^ n) 0).drop j) (qH q n j)) (oJ q l n):=by
  refine jV (fun k j=>uP q l (n:Int) k (j:Int) ((oJ q l n).take j ++ (List.replicate (2 ^ n) 0).drop j) (qH q n j)) (2 ^ n) _ (fun j hj h=>?_) ?_
  ·have hlen:((oJ q l n).take j ++ (List.replicate (2 ^ n) (0:Int)).drop j).length=2 ^ n:=by simp [hsl];omega
   refine bB ?_
   simp only [uP,hlen,if_pos (show (j:Int) < ((2 ^ n:Nat):Int) by omega),if_pos (show 0≤(j:Int) by omega),Int.toNat_natCast,eH j (show j < 4611686018427387904 by omega),hwl]
   refine bI (a:=qH q n (j + 1)) (aAT q hq hw hv j q.length 0 (by omega) n (qH q n j) hn12 (by omega) (gX q n j)) ?_
   obtain ⟨kn',hk',g⟩:=vaE l hT hn (qH q n (j + 1)) (gX q n (j + 1)) hp hK (l.length - 1) (by omega) (List.replicate l.length (-1)) (by have:=kn0 (eL l (qH q n (j + 1)) l.length);rw [fM] at this;exact this)
   have er:rd (eL l (qH q n (j + 1)) l.length) ((l.length - 1:Nat):Int)=jI q l n j:=by
    unfold jI
    rw [show ((l.length - 1:Nat):Int)=(l.length:Int) - 1 from by omega]
   rw [er] at g
   refine bI g ?_
   rw [aDW _ (hb j hj)]
   simp only [Option.bind_some]
   rw [xC (oJ q l n) (List.replicate (2 ^ n) 0) j _ (by omega) (by simp;exact hj) (by
    unfold oJ
    rw [List.getElem?_map,List.getElem?_range hj]
    rfl)]
   exact h
  ·refine bB ?_
   have hlen:((oJ q l n).take (2 ^ n) ++ (List.replicate (2 ^ n) (0:Int)).drop (2 ^ n)).length=2 ^ n:=by simp [hsl]
   simp only [uP,hlen,if_neg (show ¬ ((2 ^ n:Nat):Int) < ((2 ^ n:Nat):Int) by omega)]
   rw [List.take_of_length_le (by omega),List.drop_of_length_le (by simp),List.append_nil]
   exact bA _
 exact main 0 (by omega)
def lE (w v:Int):Prop:=0≤v∧v < (2:Int) ^ w.toNat
theorem gO (w:Int):lE w 0:=⟨Int.le_refl _,Int.pow_pos (by decide)⟩
theorem tW (n:Nat) (x:Int):lE (n:Int) (x % (2:Int) ^ n):=by
 have:(0:Int) < 2 ^ n:=Int.pow_pos (by decide)
 exact ⟨Int.emod_nonneg _ (by omega),Int.emod_lt_of_pos _ this⟩
theorem yW (w:Int) (h:1≤w) (v:Int) (hv:v=0∨v=1):lE w v:=by
 obtain ⟨n,rfl⟩:=Int.eq_ofNat_of_zero_le (show 0≤w by omega)
 have h2:(2:Int) ^ 1≤2 ^ n:=by
  have:(2:Nat) ^ 1≤2 ^ n:=Nat.pow_le_pow_right (by decide) (by omega)
  exact_mod_cast this
 unfold lE
 rw [Int.toNat_natCast]
 omega
theorem rW (n:Nat) (h8:n≤8) (a b:Int) (ha:lE (n:Int) a) (hb:lE (n:Int) b):lE (n:Int) (Go.bits .and .i64 a b)∧lE (n:Int) (Go.bits .or .i64 a b)∧lE (n:Int) (Go.bits .xor .i64 a b):=by
 obtain ⟨x,rfl⟩:=Int.eq_ofNat_of_zero_le ha.1
 obtain ⟨y,rfl⟩:=Int.eq_ofNat_of_zero_le hb.1
 have hx:x < 2 ^ n:=by have:=ha.2;rw [Int.toNat_natCast] at this;exact_mod_cast this
 have hy:y < 2 ^ n:=by have:=hb.2;rw [Int.toNat_natCast] at this;exact_mod_cast this
 have hN:2 ^ n≤256:=Nat.le_trans (Nat.pow_le_pow_right (by decide) h8) (by decide)
 have mk:∀ z:Nat,z < 2 ^ n→lE (n:Int) (z:Int):=fun z hz=>⟨Int.natCast_nonneg _,by rw [Int.toNat_natCast];exact_mod_cast hz⟩
 refine ⟨?_,?_,?_⟩
 ·rw [yL x y (by omega) (by omega)]
  exact mk _ (Nat.and_lt_two_pow _ hy)
 ·rw [pV x y (by omega) (by omega)]
  exact mk _ (Nat.or_lt_two_pow hx hy)
 ·have e:Go.bits .xor .i64 (x:Int) (y:Int)=((x ^^^ y:Nat):Int):=by
   unfold Go.bits
   show IntKind.i64.wrap (((BitVec.ofInt 64 (x:Int)) ^^^ (BitVec.ofInt 64 (y:Int))).toNat:Int)=_
   rw [BitVec.toNat_xor,BitVec.ofInt_natCast,BitVec.ofInt_natCast,BitVec.toNat_ofNat,BitVec.toNat_ofNat,Nat.mod_eq_of_lt (by omega),Nat.mod_eq_of_lt (by omega)]
   exact iK _ (Int.natCast_nonneg _) (by have:=Nat.xor_lt_two_pow hx hy;omega)
  rw [e]
  exact mk _ (Nat.xor_lt_two_pow hx hy)
theorem oC (ps:List Int):∀ (ms:List Bool) (j:Nat),ms.getD j false=true→(rN ms ps).getD j false=true:=by
 induction ps with
 | nil=>intro ms j h;exact h
 | cons p ps ih=>intro ms j h;exact ih _ j (tQ ms j _ h)
theorem yO (ps:List Int):∀ (ms:List Bool) (p:Int),p∈ps→p.toNat < ms.length→(rN ms ps).getD p.toNat false=true:=by
 induction ps with
 | nil=>intro ms p h;cases h
 | cons q ps ih =>
  intro ms p h hp
  rcases List.mem_cons.1 h with rfl|h
  ·refine oC ps _ _ ?_
   rw [List.getD_eq_getElem?_getD,List.getElem?_set,if_pos rfl,if_pos hp]
   rfl
  ·exact ih _ p h (by rw [List.length_set];exact hp)
theorem zF (ps:List Int):∀ (ms:List Bool) (j:Nat),(∀ p∈ps,p.toNat≠j)→(rN ms ps).getD j false=ms.getD j false:=by
 induction ps with
 | nil=>intro ms j _;rfl
 | cons q ps ih =>
  intro ms j h
  show (rN (ms.set q.toNat true) ps).getD j false=_
  rw [ih _ j (fun p hp=>h p (List.mem_cons_of_mem _ hp)),List.getD_eq_getElem?_getD,List.getElem?_set,if_neg (h q (List.mem_cons_self ..)),← List.getD_eq_getElem?_getD]
theorem lK (l:List bN):∀ d (ms:List Bool) (j:Nat),ms.getD j false=true→(mA l d ms).getD j false=true:=by
 intro d
 induction d with
 | zero=>intro ms j h;exact h
 | succ d ih =>
  intro ms j h
  unfold mA
  refine ih _ j ?_
  split
  ·exact oC _ _ _ h
  ·exact h
theorem xI (l:List bN) (hT:fT l=true):∀ d (ms:List Bool) (j:Nat),d≤j→d≤l.length→(mA l d ms).getD j false=ms.getD j false:=by
 intro d
 induction d with
 | zero=>intro ms j _ _;rfl
 | succ d ih =>
  intro ms j h hd
  unfold mA
  rw [ih _ j (by omega) (by omega)]
  split
  ·exact zF _ _ _ (fun p hp=>by have:=dV l hT d (by omega) p hp;omega)
  ·rfl
theorem oT (l:List bN) (hT:fT l=true):∀ d (ms:List Bool) (i:Nat),i < d→d≤l.length→ms.length=l.length→(mA l d ms).getD i false=true→∀ p∈np (aC l (i:Int)),(mA l d ms).getD p.toNat false=true:=by
 intro d
 induction d with
 | zero=>intro ms i h;omega
 | succ d ih =>
  intro ms i h hd hm hi p hp
  unfold mA at hi ⊢
  rcases Nat.lt_or_ge i d with h1|h1
  ·exact ih _ i h1 (by omega) (by split <;> simp [jX,hm]) hi p hp
  ·obtain rfl:i=d:=by omega
   rw [xI l hT i _ i (Nat.le_refl _) (by omega)] at hi
   have hpi:=dV l hT i (by omega)
   have hc:cW false ms (i:Int)=true:=by
    rw [fK]
    split at hi
    ·next h2=>rw [fK] at h2;exact h2
    ·exact hi
   rw [if_pos hc]
   exact lK l i _ _ (yO _ _ p hp (by have:=hpi p hp;omega))
theorem wC (q:List eE):∀ d i (ws ws':List Int),oD q d i ws=some ws'→∀ K:Int,0≤K→rd ws K≠0→rd ws' K=rd ws K:=by
 intro d
 induction d with
 | zero=>intro i ws ws' h K _ _;cases h;rfl
 | succ d ih =>
  intro i ws ws' h K hK hn
  unfold oD at h
  split at h
  ·next hc =>
   obtain ⟨h1,h2,h3⟩:=hc
   have hne:(aI q (i:Int)).f1.toNat≠K.toNat:=fun e=>hn (by rw [← show (aI q (i:Int)).f1=K from by omega];exact h3)
   have e:rd (ws.set (aI q (i:Int)).f1.toNat (aI q (i:Int)).f2) K=rd ws K:=by
    unfold rd
    rw [List.getD_eq_getElem?_getD,List.getElem?_set,if_neg hne,← List.getD_eq_getElem?_getD]
   rw [ih (i + 1) _ _ h K hK (by rw [e];exact hn),e]
  ·cases h
theorem vF (q:List eE):∀ d i (ws ws':List Int),ws.length=8→oD q d i ws=some ws'→∀ j:Nat,i≤j→j < i + d→(0≤(aI q (j:Int)).f1∧(aI q (j:Int)).f1≤7)∧(1≤(aI q (j:Int)).f2∧(aI q (j:Int)).f2≤8)∧rd ws' (aI q (j:Int)).f1=(aI q (j:Int)).f2:=by
 intro d
 induction d with
 | zero=>intro i ws ws' _ _ j h1 h2;omega
 | succ d ih =>
  intro i ws ws' hl h j h1 h2
  unfold oD at h
  split at h
  ·next hc =>
   rcases Nat.lt_or_ge i j with h3|h3
   ·exact ih (i + 1) _ _ (by rw [List.length_set];exact hl) h j (by omega) (by omega)
   ·obtain rfl:j=i:=by omega
    obtain ⟨g1,g2,g3⟩:=hc
    have e:rd (ws.set (aI q (j:Int)).f1.toNat (aI q (j:Int)).f2) (aI q (j:Int)).f1=(aI q (j:Int)).f2:=by
     unfold rd
     rw [List.getD_eq_getElem?_getD,List.getElem?_set,if_pos rfl,if_pos (by omega)]
     rfl
    exact ⟨g1,g2,by rw [wC q d (j + 1) _ _ h _ g1.1 (by rw [e];omega),e]⟩
  ·cases h
def kH (ws xs:List Int):Prop:=∀ K:Nat,K < 8→lE (rd ws (K:Int)) (rd xs (K:Int))
theorem nO (ws:List Int):kH ws (List.replicate 8 0):=fun K hK=>by
 rw [dP (List.replicate 8 0),dM _ K _ (by simpa using hK),List.getElem_replicate]
 exact gO _
theorem vL (q:List eE) (ws:List Int) (t:Nat):∀ d i,(∀ j:Nat,i≤j→j < i + d→(0≤(aI q (j:Int)).f1∧(aI q (j:Int)).f1≤7)∧(1≤(aI q (j:Int)).f2∧(aI q (j:Int)).f2≤8)∧rd ws (aI q (j:Int)).f1=(aI q (j:Int)).f2) →
  ∀ a (xs:List Int),xs.length=8→kH ws xs→kH ws (mF q t d i a xs):=by
 intro d
 induction d with
 | zero=>intro i _ a xs _ h;exact h
 | succ d ih =>
  intro i hj a xs hx h
  simp only [mF]
  refine ih (i + 1) (fun j h1 h2=>hj j (by omega) (by omega)) _ _ (by rw [List.length_set];exact hx) ?_
  obtain ⟨g1,g2,g3⟩:=hj i (Nat.le_refl _) (by omega)
  intro K hK
  rw [dP (xs.set _ _),List.getD_eq_getElem?_getD,List.getElem?_set]
  by_cases e:(aI q (i:Int)).f1.toNat=K
  ·rw [if_pos e,if_pos (by omega),show ((K:Nat):Int)=(aI q (i:Int)).f1 from by omega,g3]
   obtain ⟨w,hw⟩:=Int.eq_ofNat_of_zero_le (show 0≤(aI q (i:Int)).f2 by omega)
   rw [hw,Int.toNat_natCast]
   exact tW w _
  ·rw [if_neg e,← List.getD_eq_getElem?_getD,← dP]
   exact h K hK
theorem aAS (q:List eE) (ws:List Int) (n:Nat) (hj:∀ j:Nat,j < q.length→(0≤(aI q (j:Int)).f1∧(aI q (j:Int)).f1≤7)∧(1≤(aI q (j:Int)).f2∧(aI q (j:Int)).f2≤8)∧rd ws (aI q (j:Int)).f1=(aI q (j:Int)).f2):∀ t,kH ws (qH q n t):=by
 intro t
 induction t with
 | zero=>exact nO ws
 | succ t ih=>exact vL q ws t q.length 0 (fun j _ h=>hj j (by omega)) n _ (gX q n t) ih
theorem wS (l:List bN) (ms:List Bool) (ws:List Int):∀ d i,rO l ms ws d i=true→∀ j:Nat,i≤j→j < i + d→ms.getD j false=true→(aC l (j:Int)).f0=1→rd ws (aC l (j:Int)).f2=(aC l (j:Int)).f1:=by
 intro d
 induction d with
 | zero=>intro i _ j h1 h2;omega
 | succ d ih =>
  intro i h j h1 h2 hm ho
  simp only [rO,Bool.and_eq_true] at h
  rcases Nat.lt_or_ge i j with h3|h3
  ·exact ih (i + 1) h.2.2 j (by omega) (by omega) hm ho
  ·obtain rfl:j=i:=by omega
   have h4:=h.2.1
   rw [if_pos (show cW false ms (j:Int)=true by rw [fK];exact hm),if_pos ho] at h4
   exact beq_iff_eq.1 h4
end Go.Proofs.Ythipjoioicmcnaa.Pure
