-- texts of this session, merged by a program of it (wip/gen/pack.py)
import Derived.Test.YthipjoioicmcnaaGreatKFnIdleQuant12
import Derived.Test.YthipjoioicmcnaaGreatKFnIdleQuant4
import Derived.Test.YthipjoioicmcnaaGreatKFnIdleQuant6
import Derived.Test.YthipjoioicmcnaaGreatKFnIdleQuant2
import Derived.Test.YthipjoioicmcnaaGreatKFnIdleQuant7
import Derived.Test.YthipjoioicmcnaaGreatKFnIdleQuant5
import Derived.Test.YthipjoioicmcnaaGreatKFnIdleQuant8
import Derived.Test.YthipjoioicmcnaaGreatKFnIdleQuant10
import Derived.Test.YthipjoioicmcnaaGreatKFnIdleQuant11
set_option linter.unusedVariables false
set_option linter.unusedSimpArgs false
set_option maxHeartbeats 80000000
set_option maxRecDepth 100000
namespace Go.Proofs.YthipjoioicmcnaaGreat.Pure
open Go.RowKit Go.Proofs.YthipjoioicmcnaaGreat.G Go.Proofs.YthipjoioicmcnaaGreatW.PrintWords Go.Proofs.YthipjoioicmcnaaGreatW.PrintLast Go.Proofs.YthipjoioicmcnaaGreatW.PrintMore
def qu (o:Int):Bool:=decide (o=19∨o=20)
theorem quI (o w k a b c:Int):impl_isQuant.f o w k a b c=some (qu o):=by
 unfold impl_isQuant.f qu
 by_cases h:o=19
 ·rw [if_pos h]
  congr 1
  exact (decide_eq_true (Or.inl h)).symm
 ·rw [if_neg h]
  congr 1
  by_cases h2:o=20
  ·rw [decide_eq_true (Or.inr h2)]
   exact beq_iff_eq.2 h2
  ·rw [decide_eq_false (by omega)]
   exact beq_eq_false_iff_ne.2 h2
theorem quS (o:Int):spec_l02Quant.f o=some (qu o):=by
 unfold spec_l02Quant.f qu
 by_cases h:o=19
 ·rw [if_pos h]
  congr 1
  exact (decide_eq_true (Or.inl h)).symm
 ·rw [if_neg h]
  congr 1
  by_cases h2:o=20
  ·rw [decide_eq_true (Or.inr h2)]
   exact beq_iff_eq.2 h2
  ·rw [decide_eq_false (by omega)]
   exact beq_eq_false_iff_ne.2 h2
def parts (o a b c:Int):List Int:=if o=2∨o=17∨qu o=true then [a] else if 3≤o∧o≤16 then [a,b] else if o=18 then [a,b,c] else []
theorem partsI (k:Nat) (o w kk a b c:Int):impl_Parts.f (k + 1) o w kk a b c=some (parts o a b c):=by
 unfold impl_Parts.f parts
 by_cases h2:o=2
 ·rw [if_pos h2,if_pos (Or.inl h2)]
  simp only [impl_Parts.j0,if_true]
 rw [if_neg h2]
 by_cases h17:o=17
 ·rw [if_pos h17,if_pos (Or.inr (Or.inl h17))]
  simp only [impl_Parts.j0,if_true]
 rw [if_neg h17,quI]
 simp only [Option.bind_some]
 cases hq:qu o with
 | true =>
  rw [if_pos (Or.inr (Or.inr rfl))]
  simp only [impl_Parts.j0,if_true]
 | false =>
  rw [if_neg (by simp [h2,h17])]
  simp only [impl_Parts.j0,Bool.false_eq_true,if_false,apWithin,Option.bind_some]
  by_cases h3:3≤o∧o≤16
  ·rw [decide_eq_true h3,if_pos rfl,if_pos h3]
  ·rw [decide_eq_false h3,if_neg (by decide),if_neg h3]
   by_cases h18:o=18
   ·rw [if_pos h18,if_pos h18]
   ·rw [if_neg h18,if_neg h18]
theorem partsS (k:Nat) (o w kk a b c:Int):spec_Parts.f (k + 1) o w kk a b c=some (parts o a b c):=by
 unfold spec_Parts.f parts
 by_cases h2:o=2
 ·rw [if_pos h2,if_pos (Or.inl h2)]
  simp only [spec_Parts.j0,if_true]
 rw [if_neg h2]
 by_cases h17:o=17
 ·rw [if_pos h17,if_pos (Or.inr (Or.inl h17))]
  simp only [spec_Parts.j0,if_true]
 rw [if_neg h17]
 by_cases h19:o=19
 ·rw [if_pos h19,if_pos (Or.inr (Or.inr (show qu o=true from decide_eq_true (Or.inl h19))))]
  simp only [spec_Parts.j0,if_true]
 rw [if_neg h19]
 by_cases h20:o=20
 ·rw [if_pos (Or.inr (Or.inr (show qu o=true from decide_eq_true (Or.inr h20)))),beq_iff_eq.2 h20]
  simp only [spec_Parts.j0,if_true]
 have hq:qu o=false:=decide_eq_false (by omega)
 rw [beq_eq_false_iff_ne.2 h20,hq,if_neg (by simp [h2,h17])]
 simp only [spec_Parts.j0,Bool.false_eq_true,if_false,apIn,Option.bind_some]
 by_cases h3:3≤o∧o≤16
 ·rw [decide_eq_true h3,if_pos rfl,if_pos h3]
 ·rw [decide_eq_false h3,if_neg (by decide),if_neg h3]
  by_cases h18:o=18
  ·rw [if_pos h18,if_pos h18]
  ·rw [if_neg h18,if_neg h18]
def np (x:S52):List Int:=parts x.f0 x.f3 x.f4 x.f5
theorem np_length (x:S52):(np x).length≤3:=by
 unfold np parts
 repeat' split
 all_goals simp
def usesF (o kk a b c:Int):Bool:=if o=0∨o=1 then a == 0 && (b == 0 && c == 0) else if o=17 then b == 0 && c == 0 else if qu o=true then c == 0 else if o=2 then kk == 0 && (b == 0 && c == 0) else if 3≤o∧o≤16 then kk == 0 && c == 0 else if o=18 then kk == 0 else kk == 0 && (a == 0 && (b == 0 && c == 0))
theorem usesI (k:Nat) (o w kk a b c:Int):impl_usesOnly.f (k + 1) o w kk a b c=some (usesF o kk a b c):=by
 unfold impl_usesOnly.f
 rw [partsI]
 simp only [Option.bind_some]
 by_cases h0:o=0
 ·rw [if_pos h0]
  simp only [impl_usesOnly.j0,if_true,usesF,if_pos (show o=0∨o=1 from Or.inl h0),beq_self_eq_true,Bool.true_and]
 rw [if_neg h0]
 by_cases h1:o=1
 ·rw [beq_iff_eq.2 h1]
  simp only [impl_usesOnly.j0,if_true,usesF,if_pos (show o=0∨o=1 from Or.inr h1),beq_self_eq_true,Bool.true_and]
 rw [beq_eq_false_iff_ne.2 h1]
 simp only [impl_usesOnly.j0,Bool.false_eq_true,if_false,usesF,if_neg (show ¬ (o=0∨o=1) by omega),beq_self_eq_true,Bool.true_and,quI,Option.bind_some]
 by_cases h17:o=17
 ·simp only [if_pos h17]
 simp only [if_neg h17]
 cases hq:qu o with
 | true=>simp only [if_true]
 | false =>
  simp only [Bool.false_eq_true,if_false,parts,hq,h17,or_false,false_or]
  by_cases h2:o=2
  ·simp [h2]
  ·simp only [h2,if_false]
   by_cases h3:3≤o∧o≤16
   ·simp [h3]
   ·simp only [if_neg h3]
    by_cases h18:o=18
    ·simp [h18]
    ·simp [h18]
def pOk (n:Int) (ps:List Int):Bool:=ps.all fun p=>decide (0≤p∧p≤n - 1)
def w3 (l:List S52) (ps:List Int) (q:Nat):Int:=if q < ps.length then (rd_T52 l (rd ps (q:Int))).f1 else 0
def opF (o w kk b x0 x1 x2:Int):Bool :=
 if o=0 then apOk w.toNat kk else if o=1 then decide (0≤kk∧kk≤7) else if o=2 then x0 == w else if 3≤o∧o≤12 then x0 == w && x1 == w else if 13≤o∧o≤15 then x0 == x1 && w == 1 else
 if o=16 then wrap64 (x0 + x1) == w else if o=17 then decide (0≤kk∧kk≤wrap64 (x0 - w)) else if o=18 then x0 == 1 && (x1 == w && x2 == w) else decide (0≤kk∧kk≤7) && (decide (1≤b∧b≤8) && (x0 == 1 && w == 1))
theorem ifB (x y z:Int) (t:Bool):(if x=y then t else false)=(x == y && t):=by
 by_cases h:x=y
 ·rw [if_pos h,beq_iff_eq.2 h,Bool.true_and]
 ·rw [if_neg h,beq_eq_false_iff_ne.2 h,Bool.false_and]
theorem opI (o w kk b x0 x1 x2:Int) (h1:1≤w) (h8:w≤8):rgS o w kk b x0 x1 x2=some (opF o w kk b x0 x1 x2):=by
 obtain ⟨n,rfl⟩:=Int.eq_ofNat_of_zero_le (show 0≤w by omega)
 unfold rgS opF
 simp only [impl_isVar.f,impl_isWidth.f,apWithin,Option.bind_some,Int.toNat_natCast,apWordI n (by omega) (by omega),ifB _ _ 0]
 by_cases h0:o=0
 ·simp only [if_pos h0]
 simp only [if_neg h0]
 by_cases h1:o=1
 ·simp only [if_pos h1]
 simp only [if_neg h1]
 by_cases h2:o=2
 ·simp only [if_pos h2]
 simp only [if_neg h2]
 by_cases h3:3≤o∧o≤12
 ·simp only [decide_eq_true h3,if_true,if_pos h3]
 simp only [decide_eq_false h3,Bool.false_eq_true,if_false,if_neg h3]
 by_cases h4:13≤o∧o≤15
 ·simp only [decide_eq_true h4,if_true,if_pos h4]
 simp only [decide_eq_false h4,Bool.false_eq_true,if_false,if_neg h4]
 by_cases h5:o=16
 ·simp only [if_pos h5]
 simp only [if_neg h5]
 by_cases h6:o=17
 ·simp only [if_pos h6]
 simp only [if_neg h6]
 by_cases h7:o=18
 ·simp only [if_pos h7]
 simp only [if_neg h7]
 cases decide (0≤kk∧kk≤7) <;> cases decide (1≤b∧b≤8) <;> simp
theorem rgW_eq (k:Nat) (l:List S52) (hl:l.length≤1048576) (o a b c:Int):rgW (k + 4) l (parts o a b c) 0 0 0 0=some (if pOk (l.length:Int) (parts o a b c)=true then some (w3 l (parts o a b c) 0,w3 l (parts o a b c) 1,w3 l (parts o a b c) 2) else none):=by
 have hw:wrap64 ((l.length:Int) - 1)=(l.length:Int) - 1:=w64 (by omega) (by omega)
 have h01:wrap64 1=1:=by unfold wrap64;omega
 have h12:wrap64 2=2:=by unfold wrap64;omega
 have h23:wrap64 3=3:=by unfold wrap64;omega
 have key:∀ p:Int,(0≤p∧p≤(l.length:Int) - 1)→(0≤p∧p < (l.length:Int)):=fun p h=>by omega
 have len:parts o a b c=[]∨parts o a b c=[a]∨parts o a b c=[a,b]∨parts o a b c=[a,b,c]:=by
  unfold parts
  repeat' split
  all_goals simp
 rcases len with e|e|e|e <;> rw [e]
 ·simp [rgW,pOk,w3]
 ·by_cases h1:0≤a∧a≤(l.length:Int) - 1
  ·simp [rgW,pOk,w3,apWithin,rd,hw,h01,h1,key a h1]
  ·simp [rgW,pOk,w3,apWithin,rd,hw,h01,h1]
 ·by_cases h1:0≤a∧a≤(l.length:Int) - 1
  ·by_cases h2:0≤b∧b≤(l.length:Int) - 1
   ·simp [rgW,pOk,w3,apWithin,rd,hw,h01,h12,h1,h2,key a h1,key b h2]
   ·simp [rgW,pOk,w3,apWithin,rd,hw,h01,h12,h1,h2,key a h1]
  ·simp [rgW,pOk,w3,apWithin,rd,hw,h01,h1]
 ·by_cases h1:0≤a∧a≤(l.length:Int) - 1
  ·by_cases h2:0≤b∧b≤(l.length:Int) - 1
   ·by_cases h3:0≤c∧c≤(l.length:Int) - 1
    ·simp [rgW,pOk,w3,apWithin,rd,hw,h01,h12,h23,h1,h2,h3,key a h1,key b h2,key c h3]
    ·simp [rgW,pOk,w3,apWithin,rd,hw,h01,h12,h23,h1,h2,h3,key a h1,key b h2]
   ·simp [rgW,pOk,w3,apWithin,rd,hw,h01,h12,h1,h2,key a h1]
  ·simp [rgW,pOk,w3,apWithin,rd,hw,h01,h1]
def ndF (l:List S52) (x:S52):Bool:=decide (1≤x.f1∧x.f1≤8) && (decide (0≤x.f0∧x.f0≤20) && (usesF x.f0 x.f2 x.f3 x.f4 x.f5 && (pOk (l.length:Int) (np x) && opF x.f0 x.f1 x.f2 x.f4 (w3 l (np x) 0) (w3 l (np x) 1) (w3 l (np x) 2))))
theorem rightI (k:Nat) (l:List S52) (hl:l.length≤1048576) (x:S52):impl_isRight.f (k + 4) l x.f0 x.f1 x.f2 x.f3 x.f4 x.f5=some (ndF l x):=by
 unfold impl_isRight.f ndF
 simp only [impl_isWidth.f,apWithin,Option.bind_some]
 by_cases h1:1≤x.f1∧x.f1≤8
 ·rw [decide_eq_true h1,if_pos rfl,Bool.true_and]
  cases decide (0≤x.f0∧x.f0≤20) with
  | false=>rw [if_neg (by decide),Bool.false_and]
  | true =>
   rw [if_pos rfl,Bool.true_and,usesI (k + 3)]
   simp only [Option.bind_some]
   cases usesF x.f0 x.f2 x.f3 x.f4 x.f5 with
   | false=>rw [if_neg (by decide),Bool.false_and]
   | true =>
    rw [if_pos rfl,Bool.true_and,partsI (k + 3)]
    simp only [Option.bind_some]
    rw [rgW_eq k l hl]
    unfold np
    cases pOk (l.length:Int) (parts x.f0 x.f3 x.f4 x.f5) with
    | false =>
     simp
    | true =>
     simp only [if_true,Option.bind_some,Bool.true_and]
     exact opI _ _ _ _ _ _ _ h1.1 h1.2
 ·rw [decide_eq_false h1,if_neg (by decide),Bool.false_and]
theorem decB (x y z:Int):decide (x≤y∧y≤z)=(decide (x≤y) && decide (y≤z)):=by
 rw [Bool.decide_and]
theorem len2 {α:Type} {l:List α} (h:l.length=2):∃ x y,l=[x,y]:=by
 match l,h with
 | [x,y],_=>exact ⟨x,y,rfl⟩
theorem len3 {α:Type} {l:List α} (h:l.length=3):∃ x y z,l=[x,y,z]:=by
 match l,h with
 | [x,y,z],_=>exact ⟨x,y,z,rfl⟩
theorem inB_eq (x a b:Int):inB x a b=decide (a≤x∧x≤b):=rfl
theorem len1 {α:Type} {l:List α} (h:l.length=1):∃ x,l=[x]:=List.length_eq_one_iff.1 h
theorem ndS_ev (o w kk a b c:Int) (h1:1≤w) (h8:w≤8) (ws:List Int) (hws:ws.length=(parts o a b c).length) :
  Ev (fun k=>ndS k ⟨o,w,kk,a,b,c⟩ ws) (decide (0≤o∧o≤20) && (usesF o kk a b c && opF o w kk b (ws.getD 0 0) (ws.getD 1 0) (ws.getD 2 0))):=by
 obtain ⟨n,rfl⟩:=Int.eq_ofNat_of_zero_le (show 0≤w by omega)
 by_cases h0:o=0
 ·subst h0
  simp only [ndS,if_true]
  refine ev_bind (a:=apOk n kk) (f:=fun _ t=>some (t && (a == 0 && (b == 0 && c == 0)))) (apWordS n (by omega) (by omega) kk) ?_
  simp only [usesF,opF,if_true,true_or,Int.toNat_natCast]
  rw [show (apOk n kk && (a == 0 && (b == 0 && c == 0)))=(decide ((0:Int)≤0∧(0:Int)≤20) && (a == 0 && (b == 0 && c == 0) && apOk n kk)) from by rw [Bool.and_comm];rfl]
  exact ev_some _
 refine ev_eq (f:=fun _=>some (decide (0≤o∧o≤20) && (usesF o kk a b c && opF o (n:Int) kk b (ws.getD 0 0) (ws.getD 1 0) (ws.getD 2 0)))) (fun k=>?_) (ev_some _)
 simp only [ndS,if_neg h0,inB_eq]
 by_cases h1':o=1
 ·subst h1'
  simp [usesF,opF,Bool.and_comm,Bool.and_left_comm]
 simp only [if_neg h1']
 by_cases h2:o=2
 ·subst h2
  obtain ⟨x,rfl⟩:=len1 (hws.trans (by simp [parts]))
  simp [usesF,opF,qu,rd,Bool.and_comm,Bool.and_left_comm]
 simp only [if_neg h2]
 by_cases h4:3≤o∧o≤12
 ·have hp:parts o a b c=[a,b]:=by
   unfold parts qu
   rw [if_neg (by simp;omega),if_pos (by omega)]
  obtain ⟨x,y,rfl⟩:=len2 (hws.trans (by rw [hp];rfl))
  have hu:usesF o kk a b c=(kk == 0 && c == 0):=by
   unfold usesF qu
   rw [if_neg (by omega),if_neg (by omega),if_neg (by simp;omega),if_neg (by omega),if_pos (by omega)]
  have ho:opF o (n:Int) kk b x y 0=(x == (n:Int) && y == (n:Int)):=by
   unfold opF
   rw [if_neg (by omega),if_neg (by omega),if_neg (by omega),if_pos h4]
  simp [decide_eq_true h4,hu,ho,rd,decide_eq_true (show 0≤o∧o≤20 by omega),h4,show (0≤o) by omega,show o≤20 by omega]
  cases x == (n:Int) <;> cases y == (n:Int) <;> cases kk == 0 <;> cases c == 0 <;> rfl
 simp only [decide_eq_false h4,Bool.false_eq_true,if_false]
 by_cases h5:13≤o∧o≤15
 ·have hp:parts o a b c=[a,b]:=by
   unfold parts qu
   rw [if_neg (by simp;omega),if_pos (by omega)]
  obtain ⟨x,y,rfl⟩:=len2 (hws.trans (by rw [hp];rfl))
  have hu:usesF o kk a b c=(kk == 0 && c == 0):=by
   unfold usesF qu
   rw [if_neg (by omega),if_neg (by omega),if_neg (by simp;omega),if_neg (by omega),if_pos (by omega)]
  have ho:opF o (n:Int) kk b x y 0=(x == y && (n:Int) == 1):=by
   unfold opF
   rw [if_neg (by omega),if_neg (by omega),if_neg (by omega),if_neg (by omega),if_pos h5]
  simp [hu,ho,rd,Bool.and_comm,Bool.and_left_comm,h5,show (0≤o) by omega,show o≤20 by omega]
 simp only [decide_eq_false h5,Bool.false_eq_true,if_false]
 by_cases h16:o=16
 ·subst h16
  obtain ⟨x,y,rfl⟩:=len2 (hws.trans (by simp [parts,qu]))
  simp [usesF,opF,qu,rd,Bool.and_comm,Bool.and_left_comm]
 simp only [if_neg h16]
 by_cases h17:o=17
 ·subst h17
  obtain ⟨x,rfl⟩:=len1 (hws.trans (by simp [parts]))
  by_cases hk:0≤kk
  ·simp [usesF,opF,qu,rd,Bool.and_comm,Bool.and_left_comm,decB,hk]
  ·simp [usesF,opF,qu,rd,Bool.and_comm,Bool.and_left_comm,decB,hk]
 simp only [if_neg h17]
 by_cases h18:o=18
 ·subst h18
  obtain ⟨x,y,z,rfl⟩:=len3 (hws.trans (by simp [parts,qu]))
  simp [usesF,opF,qu,rd]
  cases x == 1 <;> cases y == (n:Int) <;> cases z == (n:Int) <;> cases kk == 0 <;> rfl
 simp only [if_neg h18]
 by_cases hq:o=19∨o=20
 ·have hp:parts o a b c=[a]:=by
   unfold parts qu
   rw [if_pos (by simp;omega)]
  obtain ⟨x,rfl⟩:=len1 (hws.trans (by rw [hp];rfl))
  have hu:usesF o kk a b c=(c == 0):=by
   unfold usesF qu
   rw [if_neg (by omega),if_neg (by omega),if_pos (by simpa using hq)]
  have ho:opF o (n:Int) kk b x 0 0=(decide (0≤kk∧kk≤7) && (decide (1≤b∧b≤8) && (x == 1 && (n:Int) == 1))):=by
   unfold opF
   rw [if_neg (by omega),if_neg (by omega),if_neg (by omega),if_neg (by omega),if_neg (by omega),if_neg (by omega),if_neg (by omega),if_neg (by omega)]
  rw [if_pos hq]
  simp only [List.length_singleton,if_pos (show 0 < 1 by decide),rd,Int.toNat_zero,List.getD_cons_zero,hu,ho,List.getD_cons_succ,List.getD_nil,decide_eq_true (show 0≤o∧o≤20 by omega),Bool.true_and]
  congr 1
  cases decide (0≤kk∧kk≤7) <;> cases decide (1≤b∧b≤8) <;> cases x == 1 <;> cases (n:Int) == 1 <;> cases c == 0 <;> rfl
 ·rw [if_neg hq,decide_eq_false (show ¬ (0≤o∧o≤20) by omega),Bool.false_and]
theorem ndW_ev (l:List S52) (ps:List Int) (hps:ps.length≤3) (hp:∀ p∈ps,0≤p∧p < (l.length:Int)):Ev (fun k=>ndW k l ps [] 0) (ps.map fun p=>(rd_T52 l p).f1):=by
 have main:∀ j,j≤ps.length→Ev (fun k=>ndW k l ps ((ps.take j).map fun p=>(rd_T52 l p).f1) (j:Int)) (ps.map fun p=>(rd_T52 l p).f1):=by
  refine ev_loop (fun k j=>ndW k l ps ((ps.take j).map fun p=>(rd_T52 l p).f1) (j:Int)) ps.length _ (fun j hj h=>?_) ?_
  ·have hr:rd ps (j:Int)=ps[j]:=by rw [rd_nat,getD_lt ps j _ hj]
   have hm:=hp _ (List.getElem_mem hj)
   refine ev_succ ?_
   simp only [ndW,if_pos (show (j:Int) < (ps.length:Int) by omega),hr,w64s j (show j < 4611686018427387904 by omega),
    if_pos (show (0≤(j:Int)∧(0≤ps[j]∧ps[j] < (l.length:Int)))∧(((ps.take j).map fun p=>(rd_T52 l p).f1).length:Nat) < 17592186044416 from ⟨⟨by omega,hm⟩,by simp;omega⟩)]
   rw [show ((ps.take j).map fun p=>(rd_T52 l p).f1) ++ [(rd_T52 l ps[j]).f1]=((ps.take (j + 1)).map fun p=>(rd_T52 l p).f1) from by rw [List.take_succ_eq_append_getElem hj,List.map_append];rfl]
   exact h
  ·refine ev_succ ?_
   simp only [ndW,if_neg (show ¬ (ps.length:Int) < (ps.length:Int) by omega),List.take_length]
   exact ev_some _
 exact main 0 (by omega)
theorem ndA_ev (i:Nat) (hi:i≤1048576) (ps:List Int) (hps:ps.length≤3):Ev (fun k=>ndA k ps (i:Int) 0) (pOk (i:Int) ps):=by
 have hw:wrap64 ((i:Int) - 1)=(i:Int) - 1:=w64 (by omega) (by omega)
 have main:∀ d j,j + d=ps.length→(∀ q (hq:q < ps.length),q < j→0≤ps[q]∧ps[q]≤(i:Int) - 1)→Ev (fun k=>ndA k ps (i:Int) (j:Int)) (pOk (i:Int) ps):=by
  intro d
  induction d with
  | zero =>
   intro j hj hok
   have hall:pOk (i:Int) ps=true:=by
    unfold pOk
    rw [List.all_eq_true]
    intro p hp
    obtain ⟨q,hq,rfl⟩:=List.getElem_of_mem hp
    exact decide_eq_true (hok q hq (by omega))
   refine ev_succ ?_
   simp only [ndA,if_neg (show ¬ (j:Int) < (ps.length:Int) by omega)]
   rw [hall]
   exact ev_some _
  | succ d ih =>
   intro j hj hok
   have hj2:j < ps.length:=by omega
   have hr:rd ps (j:Int)=ps[j]:=by rw [rd_nat,getD_lt ps j _ hj2]
   refine ev_succ ?_
   simp only [ndA,if_pos (show (j:Int) < (ps.length:Int) by omega),if_pos (show 0≤(j:Int) by omega),hr,hw,inB_eq,w64s j (show j < 4611686018427387904 by omega)]
   by_cases hc:0≤ps[j]∧ps[j]≤(i:Int) - 1
   ·simp only [decide_eq_true hc,if_true]
    refine ih (j + 1) (by omega) (fun q hq hq2=>?_)
    rcases Nat.lt_succ_iff_lt_or_eq.1 hq2 with h|rfl
    ·exact hok q hq h
    ·exact hc
   ·simp only [decide_eq_false hc,Bool.false_eq_true,if_false]
    have hall:pOk (i:Int) ps=false:=by
     unfold pOk
     rw [List.all_eq_false]
     exact ⟨ps[j],List.getElem_mem hj2,by simpa using hc⟩
    rw [hall]
    exact ev_some _
 exact main ps.length 0 (by omega) (fun q _ hq=>by omega)
theorem nodeS (l:List S52) (i:Nat) (hi:i < l.length) (hl:l.length≤1048576):Ev (fun k=>spec_l02Node.f k l (i:Int)) (ndF (l.take i) (rd_T52 l (i:Int))):=by
 generalize hx:rd_T52 l (i:Int)=x
 have hlen:((l.take i).length:Int)=(i:Int):=by rw [List.length_take];omega
 have hn3:=np_length x
 have hrd:∀ p:Int,0≤p→p≤(i:Int) - 1→rd_T52 (l.take i) p=rd_T52 l p:=fun p h0 h1=>by
  unfold rd_T52
  rw [List.getD_eq_getElem?_getD,List.getD_eq_getElem?_getD,List.getElem?_take,if_pos (by omega)]
 have fin:ndF (l.take i) x=(pOk (i:Int) (np x) && (decide (1≤x.f1∧x.f1≤8) && (decide (0≤x.f0∧x.f0≤20) && (usesF x.f0 x.f2 x.f3 x.f4 x.f5 && opF x.f0 x.f1 x.f2 x.f4 (((np x).map fun p=>(rd_T52 l p).f1).getD 0 0) (((np x).map fun p=>(rd_T52 l p).f1).getD 1 0) (((np x).map fun p=>(rd_T52 l p).f1).getD 2 0))))):=by
  unfold ndF
  rw [hlen]
  cases hp:pOk (i:Int) (np x) with
  | false=>simp
  | true =>
   have hall:∀ p∈np x,0≤p∧p≤(i:Int) - 1:=fun p hm=>by
    unfold pOk at hp
    rw [List.all_eq_true] at hp
    exact of_decide_eq_true (hp p hm)
   have hw:∀ q:Nat,w3 (l.take i) (np x) q=((np x).map fun p=>(rd_T52 l p).f1).getD q 0:=fun q=>by
    unfold w3
    rw [List.getD_eq_getElem?_getD,List.getElem?_map]
    by_cases hq:q < (np x).length
    ·rw [if_pos hq,rd_nat,getD_lt (np x) q _ hq,List.getElem?_eq_getElem hq]
     have:=hall _ (List.getElem_mem hq)
     rw [hrd _ this.1 this.2]
     rfl
    ·rw [if_neg hq,List.getElem?_eq_none (by omega)]
     rfl
   rw [hw 0,hw 1,hw 2,Bool.true_and,Bool.true_and]
 rw [fin]
 unfold spec_l02Node.f
 simp only [if_pos (show 0≤(i:Int)∧(i:Int) < (l.length:Int) by omega),hx]
 refine ev_bind (f:=fun k ps=>(ndA k ps (i:Int) 0).bind fun t=>if t=true then (if inB x.f1 1 8=true then (ndW k l ps [] 0).bind fun ws=>ndS k x ws else some false) else some false) (ev_step (f:=fun _=>some (np x)) (fun k=>partsS k _ _ _ _ _ _) (ev_some _)) ?_
 refine ev_bind (f:=fun k t=>if t=true then (if inB x.f1 1 8=true then (ndW k l (np x) [] 0).bind fun ws=>ndS k x ws else some false) else some false) (ndA_ev i (by omega) (np x) hn3) ?_
 cases hp:pOk (i:Int) (np x) with
 | false =>
  simp only [Bool.false_eq_true,if_false,Bool.false_and]
  exact ev_some _
 | true =>
  have hall:∀ p∈np x,0≤p∧p < (l.length:Int):=fun p hm=>by
   unfold pOk at hp
   rw [List.all_eq_true] at hp
   have:=of_decide_eq_true (hp p hm)
   omega
  simp only [if_true,Bool.true_and,inB_eq]
  by_cases hW:1≤x.f1∧x.f1≤8
  ·simp only [decide_eq_true hW,if_true,Bool.true_and]
   refine ev_bind (f:=fun k ws=>ndS k x ws) (ndW_ev l (np x) hn3 hall) ?_
   exact ndS_ev x.f0 x.f1 x.f2 x.f3 x.f4 x.f5 hW.1 hW.2 ((np x).map fun p=>(rd_T52 l p).f1) (by rw [List.length_map];rfl)
  ·simp only [decide_eq_false hW,Bool.false_eq_true,if_false,Bool.false_and]
   exact ev_some _
def tmA (l:List S52):Nat→Nat→Bool
 | 0,_=>true
 | d + 1,i=>ndF (l.take i) (rd_T52 l (i:Int)) && tmA l d (i + 1)
def tmF (l:List S52):Bool:=decide (1≤(l.length:Int)∧(l.length:Int)≤80) && tmA l l.length 0
theorem tmA_at (l:List S52):∀ d i,tmA l d i=true→∀ j,i≤j→j < i + d→ndF (l.take j) (rd_T52 l (j:Int))=true:=by
 intro d
 induction d with
 | zero=>intro i _ j h1 h2;omega
 | succ d ih =>
  intro i h j h1 h2
  simp only [tmA,Bool.and_eq_true] at h
  rcases Nat.lt_or_ge i j with h3|h3
  ·exact ih (i + 1) h.2 j (by omega) (by omega)
  ·obtain rfl:j=i:=by omega
   exact h.1
theorem termI (l:List S52) (hl:l.length≤1048576):Ev (fun k=>impl_TermOk.f k l) (tmF l):=by
 unfold impl_TermOk.f tmF
 simp only [apWithin,Option.bind_some]
 by_cases h:1≤(l.length:Int)∧(l.length:Int)≤80
 ·simp only [decide_eq_true h,if_true,Bool.true_and]
  have main:∀ d i,i + d=l.length→Ev (fun k=>impl_TermOk.l0 k l l (l.length:Int) (i:Int)) (tmA l d i):=by
   intro d
   induction d with
   | zero =>
    intro i hi
    refine ev_succ ?_
    simp only [impl_TermOk.l0,if_neg (show ¬ (i:Int) < (l.length:Int) by omega)]
    exact ev_some _
   | succ d ih =>
    intro i hi
    refine ev_succ ?_
    simp only [impl_TermOk.l0,if_pos (show (i:Int) < (l.length:Int) by omega),if_pos (show 0≤(i:Int) by omega),if_pos (show (i:Int)≤(l.length:Int) by omega),Int.toNat_natCast,w64s i (show i < 4611686018427387904 by omega)]
    refine ev_bind (a:=ndF (l.take i) (rd_T52 l (i:Int))) (f:=fun k t108=>if t108=true then (impl_TermOk.l0 k l l (l.length:Int) ((i + 1:Nat):Int)) else (some false)) ⟨4,fun k hk=>?_⟩ ?_
    ·obtain ⟨m,rfl⟩:∃ m,k=m + 4:=⟨k - 4,by omega⟩
     exact rightI m (l.take i) (by rw [List.length_take];omega) _
    ·unfold tmA
     cases ndF (l.take i) (rd_T52 l (i:Int)) with
     | false=>exact ev_some _
     | true =>
      simp only [if_true,Bool.true_and]
      exact ih (i + 1) (by omega)
  exact main l.length 0 (by omega)
 ·simp only [decide_eq_false h,Bool.false_eq_true,if_false,Bool.false_and]
  exact ev_some _
theorem termS (l:List S52) (hl:l.length≤1048576):Ev (fun k=>spec_TermOk.f k l) (tmF l):=by
 unfold spec_TermOk.f tmF
 simp only [apIn,Option.bind_some]
 by_cases h:1≤(l.length:Int)∧(l.length:Int)≤80
 ·simp only [decide_eq_true h,if_true,Bool.true_and]
  have main:∀ d i,i + d=l.length→Ev (fun k=>spec_TermOk.l0 k l (i:Int)) (tmA l d i):=by
   intro d
   induction d with
   | zero =>
    intro i hi
    refine ev_succ ?_
    simp only [spec_TermOk.l0,if_neg (show ¬ (i:Int) < (l.length:Int) by omega)]
    exact ev_some _
   | succ d ih =>
    intro i hi
    refine ev_succ ?_
    simp only [spec_TermOk.l0,if_pos (show (i:Int) < (l.length:Int) by omega),w64s i (show i < 4611686018427387904 by omega)]
    refine ev_bind (a:=ndF (l.take i) (rd_T52 l (i:Int))) (f:=fun k t108=>if t108=true then (spec_TermOk.l0 k l ((i + 1:Nat):Int)) else (some false)) (nodeS l i (by omega) hl) ?_
    unfold tmA
    cases ndF (l.take i) (rd_T52 l (i:Int)) with
    | false=>exact ev_some _
    | true =>
     simp only [if_true,Bool.true_and]
     exact ih (i + 1) (by omega)
  exact main l.length 0 (by omega)
 ·simp only [decide_eq_false h,Bool.false_eq_true,if_false,Bool.false_and]
  exact ev_some _
theorem tm_parts (l:List S52) (h:tmF l=true) (i:Nat) (hi:i < l.length):∀ p∈np (rd_T52 l (i:Int)),0≤p∧p≤(i:Int) - 1:=by
 unfold tmF at h
 rw [Bool.and_eq_true] at h
 have h1:=tmA_at l l.length 0 h.2 i (by omega) (by omega)
 unfold ndF at h1
 simp only [Bool.and_eq_true] at h1
 have h2:=h1.2.2.2.1
 unfold pOk at h2
 rw [List.all_eq_true] at h2
 intro p hp
 have:=of_decide_eq_true (h2 p hp)
 rw [List.length_take] at this
 omega
def mkF (ms:List Bool) (ps:List Int):List Bool:=ps.foldl (fun m p=>m.set p.toNat true) ms
theorem mkF_length (ps:List Int):∀ ms:List Bool,(mkF ms ps).length=ms.length:=by
 induction ps with
 | nil=>intro ms;rfl
 | cons p ps ih =>
  intro ms
  show (mkF (ms.set p.toNat true) ps).length=_
  rw [ih,List.length_set]
def reF (l:List S52):Nat→List Bool→List Bool
 | 0,ms=>ms
 | j + 1,ms=>reF l j (if rdOf false ms (j:Int)=true then mkF ms (np (rd_T52 l (j:Int))) else ms)
theorem rdOf_nat' (ms:List Bool) (j:Nat):rdOf false ms (j:Int)=ms.getD j false:=by unfold rdOf;simp
theorem mk_keep (ms:List Bool) (j:Nat) (q:Nat) (h:ms.getD j false=true):(ms.set q true).getD j false=true:=by
 rw [List.getD_eq_getElem?_getD] at h ⊢
 rw [List.getElem?_set]
 by_cases e:q=j
 ·subst e
  rw [if_pos rfl]
  by_cases hq:q < ms.length
  ·rw [if_pos hq];rfl
  ·rw [List.getElem?_eq_none (by omega)] at h
   simp at h
 ·rw [if_neg e]
  exact h
theorem reach2 (l:List S52) (i:Nat) (ps:List Int) (hp3:ps.length≤3) (r:List Bool) (n:Nat) (hi:i < n) (hn:n≤1048576) (hp:∀ p∈ps,0≤p∧p < (n:Int)) (ms:List Bool) (hm:ms.length=n)
  (e:Ev (fun k=>spec_l02Reach.l1 k l (if rdOf false ms (i:Int)=true then mkF ms ps else ms) ((i:Int) - 1)) r):Ev (fun k=>spec_l02Reach.l2 k l ms (i:Int) ps 0) r:=by
 have hw:wrap64 ((i:Int) - 1)=(i:Int) - 1:=w64 (by omega) (by omega)
 by_cases hc:rdOf false ms (i:Int)=true
 ·rw [if_pos hc] at e
  have main:∀ d j,j + d=ps.length→∀ m:List Bool,m.length=n→rdOf false m (i:Int)=true→mkF m (ps.drop j)=mkF ms ps→Ev (fun k=>spec_l02Reach.l2 k l m (i:Int) ps (j:Int)) r:=by
   intro d
   induction d with
   | zero =>
    intro j hj m hm hr he
    rw [List.drop_of_length_le (by omega)] at he
    refine ev_succ ?_
    simp only [spec_l02Reach.l2,if_neg (show ¬ (j:Int) < (ps.length:Int) by omega)]
    rw [show m=mkF ms ps from he,hw]
    exact e
   | succ d ih =>
    intro j hj m hm hr he
    have hj2:j < ps.length:=by omega
    have hq:rd ps (j:Int)=ps[j]:=by rw [rd_nat,getD_lt ps j _ hj2]
    have hpj:=hp _ (List.getElem_mem hj2)
    refine ev_succ ?_
    simp only [spec_l02Reach.l2,if_pos (show (j:Int) < (ps.length:Int) by omega),if_pos (show 0≤(i:Int) by omega),if_pos (show (i:Int) < (m.length:Int) by omega),hr,if_true,if_pos (show 0≤(j:Int) by omega),hq,if_pos hpj.1,if_pos (show ps[j] < (m.length:Int) by omega),w64s j (show j < 4611686018427387904 by omega)]
    refine ih (j + 1) (by omega) _ (by rw [List.length_set];exact hm) ?_ ?_
    ·rw [rdOf_nat'] at hr ⊢
     exact mk_keep m i _ hr
    ·rw [← he,List.drop_eq_getElem_cons hj2]
     rfl
  exact main ps.length 0 (by omega) ms hm hc (by rw [List.drop_zero])
 ·rw [if_neg hc] at e
  refine ev_succ ?_
  by_cases hl:(0:Int) < (ps.length:Int)
  ·simp only [spec_l02Reach.l2,if_pos hl,if_pos (show 0≤(i:Int) by omega),if_pos (show (i:Int) < (ms.length:Int) by omega),if_neg hc]
   rw [hw]
   exact e
  ·simp only [spec_l02Reach.l2,if_neg hl]
   rw [hw]
   exact e
theorem reach1 (l:List S52) (hT:tmF l=true) (hn:l.length≤1048576):∀ j,j≤l.length→∀ ms:List Bool,ms.length=l.length→Ev (fun k=>spec_l02Reach.l1 k l ms ((j:Int) - 1)) (reF l j ms):=by
 intro j
 induction j with
 | zero =>
  intro _ ms _
  refine ev_succ ?_
  simp only [spec_l02Reach.l1,if_neg (show ¬ (((0:Nat):Int) - 1 ≥ 0) by omega)]
  exact ev_some _
 | succ j ih =>
  intro hj ms hm
  rw [show ((j + 1:Nat):Int) - 1=(j:Int) from by omega]
  refine ev_succ ?_
  simp only [spec_l02Reach.l1,if_pos (show (j:Int) ≥ 0 by omega),if_pos (show 0≤(j:Int) by omega),if_pos (show (j:Int) < (l.length:Int) by omega)]
  refine ev_bind (a:=np (rd_T52 l (j:Int))) (f:=fun k t108=>spec_l02Reach.l2 k l ms (j:Int) t108 0) (ev_step (f:=fun _=>some (np (rd_T52 l (j:Int)))) (fun k=>partsS k _ _ _ _ _ _) (ev_some _)) ?_
  refine reach2 l j _ (np_length _) _ l.length (by omega) hn (fun p hp=>by have:=tm_parts l hT j (by omega) p hp;omega) ms hm ?_
  exact ih (by omega) _ (by split <;> simp [mkF_length,hm])
def ms0 (n:Nat):List Bool:=(List.replicate n false).set (n - 1) true
theorem ms0_length (n:Nat):(ms0 n).length=n:=by simp [ms0]
theorem reachS (l:List S52) (hT:tmF l=true) (hn:l.length≤1048576):Ev (fun k=>spec_l02Reach.f k l) (reF l l.length (ms0 l.length)):=by
 have hw:wrap64 ((l.length:Int) - 1)=(l.length:Int) - 1:=w64 (by omega) (by omega)
 have main:∀ j,j≤l.length→Ev (fun k=>spec_l02Reach.l0 k l ((ms0 l.length).take j) (j:Int)) (reF l l.length (ms0 l.length)):=by
  refine ev_loop (fun k j=>spec_l02Reach.l0 k l ((ms0 l.length).take j) (j:Int)) l.length _ (fun j hj h=>?_) ?_
  ·refine ev_succ ?_
   simp only [spec_l02Reach.l0,if_pos (show (j:Int) < (l.length:Int) by omega),if_pos (show ((ms0 l.length).take j).length < 140737488355328 by simp;omega),w64s j (show j < 4611686018427387904 by omega),hw]
   rw [show (ms0 l.length).take j ++ [((j:Int) == (l.length:Int) - 1)]=(ms0 l.length).take (j + 1) from by
    rw [List.take_succ_eq_append_getElem (by rw [ms0_length];exact hj)]
    congr 2
    simp only [ms0,List.getElem_set,List.getElem_replicate]
    by_cases e:l.length - 1=j
    ·rw [if_pos e]
     exact beq_iff_eq.2 (by omega)
    ·rw [if_neg e]
     exact beq_eq_false_iff_ne.2 (by omega)]
   exact h
  ·refine ev_succ ?_
   simp only [spec_l02Reach.l0,if_neg (show ¬ (l.length:Int) < (l.length:Int) by omega),hw]
   rw [List.take_of_length_le (by rw [ms0_length];omega)]
   exact reach1 l hT hn l.length (by omega) _ (ms0_length _)
 exact main 0 (by omega)
theorem markI (l:List S52) (i:Nat) (ps:List Int) (hp3:ps.length≤3) (r:List Bool) (n:Nat) (hn:n≤1048576) (hi:i < n) (hp:∀ p∈ps,0≤p∧p < (n:Int)) (ms:List Bool) (hm:ms.length=n)
  (e:Ev (fun k=>impl_reach.l0 (fun _=>some true) k l (mkF ms ps) ((i:Int) - 1)) r):Ev (fun k=>impl_reach.l1 (fun _=>some true) k l ms (i:Int) ps (ps.length:Int) 0) r:=by
 have hw:wrap64 ((i:Int) - 1)=(i:Int) - 1:=w64 (by omega) (by omega)
 have main:∀ d j,j + d=ps.length→∀ m:List Bool,m.length=n→mkF m (ps.drop j)=mkF ms ps→Ev (fun k=>impl_reach.l1 (fun _=>some true) k l m (i:Int) ps (ps.length:Int) (j:Int)) r:=by
  intro d
  induction d with
  | zero =>
   intro j hj m hm he
   rw [List.drop_of_length_le (by omega)] at he
   refine ev_succ ?_
   simp only [impl_reach.l1,if_neg (show ¬ (j:Int) < (ps.length:Int) by omega)]
   rw [show m=mkF ms ps from he,hw]
   exact e
  | succ d ih =>
   intro j hj m hm he
   have hj2:j < ps.length:=by omega
   have hq:rd ps (j:Int)=ps[j]:=by rw [rd_nat,getD_lt ps j _ hj2]
   have hpj:=hp _ (List.getElem_mem hj2)
   refine ev_succ ?_
   simp only [impl_reach.l1,if_pos (show (j:Int) < (ps.length:Int) by omega),if_pos (show 0≤(j:Int) by omega),hq,if_pos hpj.1,if_pos (show ps[j] < (m.length:Int) by omega),w64s j (show j < 4611686018427387904 by omega)]
   refine ih (j + 1) (by omega) _ (by rw [List.length_set];exact hm) ?_
   rw [← he,List.drop_eq_getElem_cons hj2]
   rfl
 exact main ps.length 0 (by omega) ms hm (by rw [List.drop_zero])
theorem reach0I (l:List S52) (hT:tmF l=true) (hn:l.length≤1048576):∀ j,j≤l.length→∀ ms:List Bool,ms.length=l.length→Ev (fun k=>impl_reach.l0 (fun _=>some true) k l ms ((j:Int) - 1)) (reF l j ms):=by
 intro j
 induction j with
 | zero =>
  intro _ ms _
  refine ev_succ ?_
  simp only [impl_reach.l0,if_neg (show ¬ (((0:Nat):Int) - 1 ≥ 0) by omega)]
  exact ev_some _
 | succ j ih =>
  intro hj ms hm
  have hw:wrap64 ((j:Int) - 1)=(j:Int) - 1:=w64 (by omega) (by omega)
  rw [show ((j + 1:Nat):Int) - 1=(j:Int) from by omega]
  refine ev_succ ?_
  simp only [impl_reach.l0,if_pos (show (j:Int) ≥ 0 by omega),if_pos (show 0≤(j:Int) by omega),if_pos (show (j:Int) < (ms.length:Int) by omega),Option.bind_some,Bool.not_true,reF]
  by_cases hc:rdOf false ms (j:Int)=true
  ·simp only [if_pos hc]
   refine ev_succ ?_
   simp only [impl_reach.j1,Bool.false_eq_true,if_false,if_pos (show 0≤(j:Int) by omega),if_pos (show (j:Int) < (l.length:Int) by omega)]
   refine ev_bind (a:=np (rd_T52 l (j:Int))) (f:=fun k t108=>impl_reach.l1 (fun _=>some true) k l ms (j:Int) t108 (t108.length:Int) 0) (ev_step (f:=fun _=>some (np (rd_T52 l (j:Int)))) (fun k=>partsI k _ _ _ _ _ _) (ev_some _)) ?_
   exact markI l j _ (np_length _) _ l.length hn (by omega) (fun p hp=>by have:=tm_parts l hT j (by omega) p hp;omega) ms hm (ih (by omega) _ (by rw [mkF_length];exact hm))
  ·simp only [if_neg hc]
   refine ev_succ ?_
   simp only [impl_reach.j1,if_true,hw]
   exact ih (by omega) _ hm
theorem reachI (l:List S52) (hT:tmF l=true) (hn:l.length≤1048576):Ev (fun k=>impl_reached.f k l) (reF l l.length (ms0 l.length)):=by
 have h1:1≤l.length:=by
  unfold tmF at hT
  rw [Bool.and_eq_true] at hT
  have:=of_decide_eq_true hT.1
  omega
 have hw:wrap64 ((l.length:Int) - 1)=(l.length:Int) - 1:=w64 (by omega) (by omega)
 unfold impl_reached.f impl_reach.f
 simp only [hw,if_pos (show 0≤(l.length:Int) by omega),Int.toNat_natCast,if_pos (show l.length≤281474976710656 by omega),Option.bind_some,if_pos (show 0≤(l.length:Int) - 1 by omega),
  List.length_replicate,if_pos (show (l.length:Int) - 1 < (l.length:Int) by omega)]
 have h:=reach0I l hT hn l.length (by omega) (ms0 l.length) (ms0_length _)
 unfold ms0 at h ⊢
 rw [show ((l.length:Int) - 1).toNat=l.length - 1 from by omega]
 exact h
def swF (l:List S31):Nat→Nat→Int
 | 0,_=>0
 | d + 1,i=>(rd_T31 l (i:Int)).f2 + swF l d (i + 1)
theorem bits_ev (l:List S31) (hl:l.length≤1048576):∃ v:Int,0≤v∧Ev (fun k=>spec_l05Bits.f k l) v∧Ev (fun k=>impl_frontBits.f k l) (if v > 12 then -1 else v) ∧
  (v≤12→v=swF l l.length 0∧(l.length:Int)≤v∧∀ j,j < l.length→1≤(rd_T31 l (j:Int)).f2∧(rd_T31 l (j:Int)).f2≤8):=by
 have main:∀ d i,i + d=l.length→∀ s:Int,0≤s→s≤8 * (i:Int)→∃ v:Int,0≤v∧Ev (fun k=>spec_l05Bits.l0 k l s (i:Int)) v∧Ev (fun k=>impl_frontBits.l0 k (mn s 13) l (l.length:Int) (i:Int)) (if v > 12 then -1 else v) ∧
   (v≤12→v=s + swF l d i∧s + (d:Int)≤v∧∀ j,i≤j→j < l.length→1≤(rd_T31 l (j:Int)).f2∧(rd_T31 l (j:Int)).f2≤8):=by
  intro d
  induction d with
  | zero =>
   intro i hi s h0 h1
   refine ⟨s,h0,ev_succ ?_,ev_succ ?_,fun h=>⟨by simp [swF],by omega,fun j h2 h3=>by omega⟩⟩
   ·simp only [spec_l05Bits.l0,if_neg (show ¬ (i:Int) < (l.length:Int) by omega)]
    exact ev_some _
   ·simp only [impl_frontBits.l0,if_neg (show ¬ (i:Int) < (l.length:Int) by omega)]
    by_cases h:s > 12
    ·rw [if_pos h,if_pos (show mn s 13 > 12 by unfold mn;omega)]
     exact ev_some _
    ·rw [if_neg h,if_neg (show ¬ mn s 13 > 12 by unfold mn;omega),show mn s 13=s by unfold mn;omega]
     exact ev_some _
  | succ d ih =>
   intro i hi s h0 h1
   by_cases hw:1≤(rd_T31 l (i:Int)).f2∧(rd_T31 l (i:Int)).f2≤8
   ·obtain ⟨v,v0,e1,e2,e3⟩:=ih (i + 1) (by omega) (s + (rd_T31 l (i:Int)).f2) (by omega) (by push_cast;omega)
    refine ⟨v,v0,ev_succ ?_,ev_succ ?_,fun h=>⟨by have:=(e3 h).1;simp only [swF];omega,by have:=(e3 h).2.1;omega,fun j h2 h3=>?_⟩⟩
    ·simp only [spec_l05Bits.l0,if_pos (show (i:Int) < (l.length:Int) by omega),if_pos (show 0≤(i:Int) by omega),apIn,decide_eq_true hw,Option.bind_some,if_true,w64s i (show i < 4611686018427387904 by omega),
      w64 (show -9223372036854775808≤s + (rd_T31 l (i:Int)).f2 by omega) (show s + (rd_T31 l (i:Int)).f2≤9223372036854775807 by omega)]
     exact e1
    ·simp only [impl_frontBits.l0,if_pos (show (i:Int) < (l.length:Int) by omega),if_pos (show 0≤(i:Int) by omega),impl_isWidth.f,apWithin,decide_eq_true hw,Option.bind_some,if_true,w64s i (show i < 4611686018427387904 by omega),
      show mn (wrap64 (mn s 13 + (rd_T31 l (i:Int)).f2)) 13=mn (s + (rd_T31 l (i:Int)).f2) 13 from by unfold mn wrap64;omega]
     exact e2
    ·rcases Nat.lt_or_ge i j with h4|h4
     ·exact (e3 h).2.2 j (by omega) h3
     ·obtain rfl:j=i:=by omega
      exact hw
   ·refine ⟨13,by decide,ev_succ ?_,ev_succ ?_,fun h=>absurd h (by decide)⟩
    ·simp only [spec_l05Bits.l0,if_pos (show (i:Int) < (l.length:Int) by omega),if_pos (show 0≤(i:Int) by omega),apIn,decide_eq_false hw,Option.bind_some,Bool.false_eq_true,if_false]
     exact ev_some _
    ·simp only [impl_frontBits.l0,if_pos (show (i:Int) < (l.length:Int) by omega),if_pos (show 0≤(i:Int) by omega),impl_isWidth.f,apWithin,decide_eq_false hw,Option.bind_some,Bool.false_eq_true,if_false]
     rw [if_pos (by decide)]
     exact ev_some _
 obtain ⟨v,v0,e1,e2,e3⟩:=main l.length 0 (by omega) 0 (by omega) (by omega)
 exact ⟨v,v0,e1,e2,fun h=>⟨by have:=(e3 h).1;omega,by have:=(e3 h).2.1;omega,fun j hj=>(e3 h).2.2 j (by omega) hj⟩⟩
def fwF (q:List S31):Nat→Nat→List Int→Option (List Int)
 | 0,_,ws=>some ws
 | d + 1,i,ws=>if (0≤(rd_T31 q (i:Int)).f1∧(rd_T31 q (i:Int)).f1≤7)∧(1≤(rd_T31 q (i:Int)).f2∧(rd_T31 q (i:Int)).f2≤8)∧rd ws (rd_T31 q (i:Int)).f1=0 then fwF q d (i + 1) (ws.set (rd_T31 q (i:Int)).f1.toNat (rd_T31 q (i:Int)).f2) else none
def wsOk (ws:List Int):Prop:=ws.length=8∧∀ x∈ws,0≤x
theorem wsOk_set {ws:List Int} (h:wsOk ws) (j:Nat) (v:Int) (hv:0≤v):wsOk (ws.set j v):=by
 refine ⟨by rw [List.length_set];exact h.1,fun x hx=>?_⟩
 rcases List.mem_or_eq_of_mem_set hx with h1|rfl
 ·exact h.2 x h1
 ·exact hv
theorem wsOk_rd {ws:List Int} (h:wsOk ws) (j:Int):0≤rd ws j:=by
 unfold rd
 by_cases hj:j.toNat < ws.length
 ·rw [List.getD_eq_getElem?_getD,List.getElem?_eq_getElem hj]
  exact h.2 _ (List.getElem_mem hj)
 ·rw [List.getD_eq_getElem?_getD,List.getElem?_eq_none (by omega)]
  exact Int.le_refl _
theorem fwI (q:List S31) (hq:q.length≤1048576):∀ d i,i + d=q.length→∀ ws,wsOk ws→Ev (fun k=>foW k q (i:Int) ws) (fwF q d i ws):=by
 intro d
 induction d with
 | zero =>
  intro i hi ws hw
  refine ev_succ ?_
  simp only [foW,if_neg (show ¬ (i:Int) < (q.length:Int) by omega),fwF]
  exact ev_some _
 | succ d ih =>
  intro i hi ws hw
  refine ev_succ ?_
  simp only [foW,fwF,if_pos (show (i:Int) < (q.length:Int) by omega),if_pos (show 0≤(i:Int) by omega),impl_isVar.f,impl_isWidth.f,apWithin,Option.bind_some,w64s i (show i < 4611686018427387904 by omega)]
  by_cases h1:0≤(rd_T31 q (i:Int)).f1∧(rd_T31 q (i:Int)).f1≤7
  ·simp only [decide_eq_true h1,if_true]
   by_cases h2:1≤(rd_T31 q (i:Int)).f2∧(rd_T31 q (i:Int)).f2≤8
   ·simp only [decide_eq_true h2,if_true,if_pos (show 0≤(rd_T31 q (i:Int)).f1∧(rd_T31 q (i:Int)).f1 < 8 by omega)]
    by_cases h3:rd ws (rd_T31 q (i:Int)).f1=0
    ·simp only [if_neg (show ¬ 0 < rd ws (rd_T31 q (i:Int)).f1 by omega),if_pos (show (0≤(rd_T31 q (i:Int)).f1∧(rd_T31 q (i:Int)).f1≤7)∧(1≤(rd_T31 q (i:Int)).f2∧(rd_T31 q (i:Int)).f2≤8)∧rd ws (rd_T31 q (i:Int)).f1=0 from ⟨h1,h2,h3⟩)]
     exact ih (i + 1) (by omega) _ (wsOk_set hw _ _ (by omega))
    ·have:=wsOk_rd hw (rd_T31 q (i:Int)).f1
     rw [if_neg (fun h=>h3 h.2.2)]
     simp only [if_pos (show 0 < rd ws (rd_T31 q (i:Int)).f1 by omega)]
     exact ev_some _
   ·rw [if_neg (fun h=>h2 h.2.1)]
    simp only [decide_eq_false h2,Bool.false_eq_true,if_false]
    exact ev_some _
  ·rw [if_neg (fun h=>h1 h.1)]
   simp only [decide_eq_false h1,Bool.false_eq_true,if_false]
   exact ev_some _
def orF (x:Option (List Int)) (R:List Int→Bool):Bool:=match x with|none=>false|some ws=>R ws
theorem fwS (q:List S31) (l:List S52) (hq:q.length≤1048576) (R:List Int→Bool) (hR:∀ ws,wsOk ws→Ev (fun k=>(spec_l02Reach.f k l).bind fun t115=>(spec_FrontOk.l1 k l ws t115 0)) (R ws)) :
  ∀ d i,i + d=q.length→∀ ws,wsOk ws→Ev (fun k=>spec_FrontOk.l0 k q l ws (i:Int)) (orF (fwF q d i ws) R):=by
 intro d
 induction d with
 | zero =>
  intro i hi ws hw
  refine ev_succ ?_
  simp only [spec_FrontOk.l0,if_neg (show ¬ (i:Int) < (q.length:Int) by omega),fwF,orF]
  exact hR ws hw
 | succ d ih =>
  intro i hi ws hw
  refine ev_succ ?_
  simp only [spec_FrontOk.l0,fwF,if_pos (show (i:Int) < (q.length:Int) by omega),if_pos (show 0≤(i:Int) by omega),apIn,Option.bind_some,w64s i (show i < 4611686018427387904 by omega)]
  by_cases h1:0≤(rd_T31 q (i:Int)).f1∧(rd_T31 q (i:Int)).f1≤7
  ·simp only [decide_eq_true h1,if_true]
   by_cases h2:1≤(rd_T31 q (i:Int)).f2∧(rd_T31 q (i:Int)).f2≤8
   ·have h8:=hw.1
    simp only [decide_eq_true h2,if_true,if_pos h1.1,if_pos (show (rd_T31 q (i:Int)).f1 < (ws.length:Int) by omega)]
    by_cases h3:rd ws (rd_T31 q (i:Int)).f1=0
    ·simp only [if_pos h3,if_pos (show (0≤(rd_T31 q (i:Int)).f1∧(rd_T31 q (i:Int)).f1≤7)∧(1≤(rd_T31 q (i:Int)).f2∧(rd_T31 q (i:Int)).f2≤8)∧rd ws (rd_T31 q (i:Int)).f1=0 from ⟨h1,h2,h3⟩)]
     exact ih (i + 1) (by omega) _ (wsOk_set hw _ _ (by omega))
    ·rw [if_neg (fun h=>h3 h.2.2)]
     simp only [if_neg h3]
     exact ev_some _
   ·rw [if_neg (fun h=>h2 h.2.1)]
    simp only [decide_eq_false h2,Bool.false_eq_true,if_false]
    exact ev_some _
  ·rw [if_neg (fun h=>h1 h.1)]
   simp only [decide_eq_false h1,Bool.false_eq_true,if_false]
   exact ev_some _
theorem reF_length (l:List S52):∀ j (ms:List Bool),(reF l j ms).length=ms.length:=by
 intro j
 induction j with
 | zero=>intro ms;rfl
 | succ j ih =>
  intro ms
  unfold reF
  rw [ih]
  split
  ·exact mkF_length _ _
  ·rfl
theorem tm_var (l:List S52) (h:tmF l=true) (i:Nat) (hi:i < l.length) (ho:(rd_T52 l (i:Int)).f0=1):0≤(rd_T52 l (i:Int)).f2∧(rd_T52 l (i:Int)).f2≤7:=by
 unfold tmF at h
 rw [Bool.and_eq_true] at h
 have h1:=tmA_at l l.length 0 h.2 i (by omega) (by omega)
 unfold ndF at h1
 simp only [Bool.and_eq_true] at h1
 have h2:=h1.2.2.2.2
 unfold opF at h2
 rw [if_neg (by omega),if_pos ho] at h2
 exact of_decide_eq_true h2
def fnF (l:List S52) (ms:List Bool) (ws:List Int):Nat→Nat→Bool
 | 0,_=>true
 | d + 1,i => !qu (rd_T52 l (i:Int)).f0 && ((if rdOf false ms (i:Int)=true then (if (rd_T52 l (i:Int)).f0=1 then rd ws (rd_T52 l (i:Int)).f2 == (rd_T52 l (i:Int)).f1 else true) else true) && fnF l ms ws d (i + 1))
theorem fnI (l:List S52) (hT:tmF l=true) (hn:l.length≤1048576) (ms:List Bool) (hm:ms.length=l.length) (ws:List Int):∀ d i,i + d=l.length→Ev (fun k=>foN k l ms ws (i:Int)) (fnF l ms ws d i):=by
 intro d
 induction d with
 | zero =>
  intro i hi
  refine ev_succ ?_
  simp only [foN,if_neg (show ¬ (i:Int) < (l.length:Int) by omega),fnF]
  exact ev_some _
 | succ d ih =>
  intro i hi
  refine ev_succ ?_
  simp only [foN,fnF,if_pos (show (i:Int) < (l.length:Int) by omega),if_pos (show 0≤(i:Int) by omega),quI,Option.bind_some,if_pos (show (i:Int) < (ms.length:Int) by omega),w64s i (show i < 4611686018427387904 by omega)]
  cases qu (rd_T52 l (i:Int)).f0 with
  | true=>exact ev_some _
  | false =>
   simp only [Bool.false_eq_true,if_false,Bool.not_false,Bool.true_and]
   by_cases hr:rdOf false ms (i:Int)=true
   ·simp only [if_pos hr]
    by_cases ho:(rd_T52 l (i:Int)).f0=1
    ·have hv:=tm_var l hT i (by omega) ho
     simp only [if_pos ho,if_pos (show 0≤(rd_T52 l (i:Int)).f2∧(rd_T52 l (i:Int)).f2 < 8 by omega)]
     by_cases he:(rd_T52 l (i:Int)).f1=rd ws (rd_T52 l (i:Int)).f2
     ·simp only [if_pos he,beq_iff_eq.2 he.symm,Bool.true_and]
      exact ih (i + 1) (by omega)
     ·simp only [if_neg he,beq_eq_false_iff_ne.2 (fun h=>he h.symm),Bool.false_and]
      exact ev_some _
    ·simp only [if_neg ho,Bool.true_and]
     exact ih (i + 1) (by omega)
   ·simp only [if_neg hr,Bool.true_and]
    exact ih (i + 1) (by omega)
theorem fnS (l:List S52) (hT:tmF l=true) (hn:l.length≤1048576) (ms:List Bool) (hm:ms.length=l.length) (ws:List Int) (hw:ws.length=8):∀ d i,i + d=l.length→Ev (fun k=>spec_FrontOk.l1 k l ws ms (i:Int)) (fnF l ms ws d i):=by
 intro d
 induction d with
 | zero =>
  intro i hi
  refine ev_succ ?_
  simp only [spec_FrontOk.l1,if_neg (show ¬ (i:Int) < (l.length:Int) by omega),fnF]
  exact ev_some _
 | succ d ih =>
  intro i hi
  refine ev_succ ?_
  simp only [spec_FrontOk.l1,fnF,if_pos (show (i:Int) < (l.length:Int) by omega),if_pos (show 0≤(i:Int) by omega),quS,Option.bind_some,if_pos (show (i:Int) < (ms.length:Int) by omega),w64s i (show i < 4611686018427387904 by omega)]
  cases qu (rd_T52 l (i:Int)).f0 with
  | true=>exact ev_some _
  | false =>
   simp only [Bool.false_eq_true,if_false,Bool.not_false,Bool.true_and]
   by_cases hr:rdOf false ms (i:Int)=true
   ·simp only [if_pos hr]
    by_cases ho:(rd_T52 l (i:Int)).f0=1
    ·have hv:=tm_var l hT i (by omega) ho
     simp only [if_pos ho,if_pos hv.1,if_pos (show (rd_T52 l (i:Int)).f2 < (ws.length:Int) by omega)]
     by_cases he:rd ws (rd_T52 l (i:Int)).f2=(rd_T52 l (i:Int)).f1
     ·simp only [if_pos he,beq_iff_eq.2 he,Bool.true_and]
      exact ih (i + 1) (by omega)
     ·simp only [if_neg he,beq_eq_false_iff_ne.2 he,Bool.false_and]
      exact ev_some _
    ·simp only [if_neg ho,Bool.true_and]
     exact ih (i + 1) (by omega)
   ·simp only [if_neg hr,Bool.true_and]
    exact ih (i + 1) (by omega)
def frF (q:List S31) (l:List S52):Bool:=match fwF q q.length 0 (List.replicate 8 0) with
 | none=>false
 | some ws=>tmF l && ((rd_T52 l ((l.length:Int) - 1)).f1 == 1 && fnF l (reF l l.length (ms0 l.length)) ws l.length 0)
theorem ws0:wsOk (List.replicate 8 0):=⟨rfl,fun x hx=>by rw [List.eq_of_mem_replicate hx];exact Int.le_refl _⟩
theorem tm_pos {l:List S52} (hT:tmF l=true):1≤l.length:=by
 unfold tmF at hT
 rw [Bool.and_eq_true] at hT
 have:=of_decide_eq_true hT.1
 omega
theorem frontI (q:List S31) (l:List S52) (hq:q.length≤1048576) (hl:l.length≤1048576):Ev (fun k=>impl_FrontOk.f k q l) (frF q l):=by
 have hw:wrap64 ((l.length:Int) - 1)=(l.length:Int) - 1:=w64 (by omega) (by omega)
 unfold impl_FrontOk.f frF
 have h1:=fwI q hq q.length 0 (by omega) _ ws0
 refine ev_bind (a:=fwF q q.length 0 (List.replicate 8 0)) (f:=fun k ws=>match ws with
  | none=>some false
  | some ws=>(impl_TermOk.f k l).bind fun t=>if t=true then (if 0≤wrap64 ((l.length:Int) - 1)∧wrap64 ((l.length:Int) - 1) < (l.length:Int) then (if (rd_T52 l (wrap64 ((l.length:Int) - 1))).f1=1 then (impl_reached.f k l).bind fun ms=>foN k l ms ws 0 else some false) else none) else some false) h1 ?_
 cases fwF q q.length 0 (List.replicate 8 0) with
 | none=>exact ev_some _
 | some ws =>
  dsimp only
  refine ev_bind (a:=tmF l) (f:=fun k t=>if t=true then (if 0≤wrap64 ((l.length:Int) - 1)∧wrap64 ((l.length:Int) - 1) < (l.length:Int) then (if (rd_T52 l (wrap64 ((l.length:Int) - 1))).f1=1 then (impl_reached.f k l).bind fun ms=>foN k l ms ws 0 else some false) else none) else some false) (termI l hl) ?_
  cases hT:tmF l with
  | false=>exact ev_some _
  | true =>
   have hp:=tm_pos hT
   simp only [if_true,hw,if_pos (show 0≤(l.length:Int) - 1∧(l.length:Int) - 1 < (l.length:Int) by omega),Bool.true_and]
   by_cases hW:(rd_T52 l ((l.length:Int) - 1)).f1=1
   ·simp only [if_pos hW,beq_iff_eq.2 hW,Bool.true_and]
    refine ev_bind (a:=reF l l.length (ms0 l.length)) (f:=fun k ms=>foN k l ms ws 0) (reachI l hT hl) ?_
    exact fnI l hT hl _ (by rw [reF_length,ms0_length]) ws l.length 0 (by omega)
   ·simp only [if_neg hW,beq_eq_false_iff_ne.2 hW,Bool.false_and]
    exact ev_some _
theorem zeros_ev:Ev (fun k=>spec_l04Zeros.f k) (List.replicate 8 0):=by
 have main:∀ j,j≤8→Ev (fun k=>spec_l04Zeros.l0 k (List.replicate j 0) (j:Int)) (List.replicate 8 0):=by
  refine ev_loop (fun k j=>spec_l04Zeros.l0 k (List.replicate j 0) (j:Int)) 8 _ (fun j hj h=>?_) ?_
  ·refine ev_succ ?_
   simp only [spec_l04Zeros.l0,if_pos (show (j:Int) < 8 by omega),if_pos (show (List.replicate j (0:Int)).length < 17592186044416 by simp;omega),w64s j (show j < 4611686018427387904 by omega),← List.replicate_succ']
   exact h
  ·refine ev_succ ?_
   simp only [spec_l04Zeros.l0,if_neg (show ¬ ((8:Nat):Int) < 8 by omega)]
   exact ev_some _
 exact main 0 (by omega)
theorem frontS (q:List S31) (l:List S52) (hq:q.length≤1048576) (hl:l.length≤1048576):Ev (fun k=>spec_FrontOk.f k q l) (frF q l):=by
 have hw:wrap64 ((l.length:Int) - 1)=(l.length:Int) - 1:=w64 (by omega) (by omega)
 have stop:Ev (fun k=>spec_FrontOk.j0 k q l true) false:=ev_succ (by simp only [spec_FrontOk.j0,if_true];exact ev_some _)
 unfold spec_FrontOk.f
 refine ev_bind (a:=tmF l) (f:=fun k t101=>if t101=true then (if 0≤(wrap64 ((l.length:Int) - 1)) then (if (wrap64 ((l.length:Int) - 1)) < (l.length:Int) then (spec_FrontOk.j0 k q l (((rd_T52 l (wrap64 ((l.length:Int) - 1))).f1) != 1)) else (none)) else (none)) else (spec_FrontOk.j0 k q l true)) (termS l hl) ?_
 cases hT:tmF l with
 | false =>
  have hz:frF q l=false:=by
   unfold frF
   rw [hT]
   cases fwF q q.length 0 (List.replicate 8 0) <;> rfl
  rw [hz]
  exact stop
 | true =>
  have hp:=tm_pos hT
  simp only [if_true,hw,if_pos (show 0≤(l.length:Int) - 1 by omega),if_pos (show (l.length:Int) - 1 < (l.length:Int) by omega)]
  by_cases hW:(rd_T52 l ((l.length:Int) - 1)).f1=1
  ·have hz:frF q l=orF (fwF q q.length 0 (List.replicate 8 0)) (fun ws=>fnF l (reF l l.length (ms0 l.length)) ws l.length 0):=by
    unfold frF orF
    rw [hT,beq_iff_eq.2 hW]
    cases fwF q q.length 0 (List.replicate 8 0) <;> rfl
   rw [hz]
   simp only [bne_eq_false_iff_eq.2 hW]
   refine ev_succ ?_
   simp only [spec_FrontOk.j0,Bool.false_eq_true,if_false]
   refine ev_bind (a:=List.replicate 8 0) (f:=fun k t103=>spec_FrontOk.l0 k q l t103 0) zeros_ev ?_
   refine fwS q l hq _ (fun ws hws=>?_) q.length 0 (by omega) _ ws0
   refine ev_bind (a:=reF l l.length (ms0 l.length)) (f:=fun k t115=>spec_FrontOk.l1 k l ws t115 0) (reachS l hT hl) ?_
   exact fnS l hT hl _ (by rw [reF_length,ms0_length]) ws hws.1 l.length 0 (by omega)
  ·have hz:frF q l=false:=by
    unfold frF
    rw [hT,beq_eq_false_iff_ne.2 hW]
    cases fwF q q.length 0 (List.replicate 8 0) <;> rfl
   rw [hz]
   simp only [bne_iff_ne.2 hW]
   exact stop
theorem np_ev (x:S52):Ev (fun k=>spec_Parts.f k x.f0 x.f1 x.f2 x.f3 x.f4 x.f5) (np x):=ev_step (f:=fun _=>some (np x)) (fun k=>partsS k _ _ _ _ _ _) (ev_some _)
abbrev r8 (x3:List (List Bool)):Prop:=∀ p:Nat,p < x3.length→(x3.getD p []).length=8
theorem free2_ok (l:List S52) (x3:List (List Bool)) (i v:Nat) (hi:i < l.length) (hn:l.length≤1048576) (h3:x3.length=i) (h8:r8 x3) (hv:v < 8) (x5:List Bool) (h5:x5.length=v) (R:List Bool) (ps:List Int) (hl:ps.length≤3) (hp:∀ p∈ps,0≤p∧p≤(i:Int) - 1)
  (hR:∀ b:Bool,Ev (fun k=>spec_l02Free.l1 k l x3 (i:Int) (x5 ++ [b]) ((v + 1:Nat):Int)) R∨True) (hE:∀ b:Bool,∃ R',R'.length=8∧Ev (fun k=>spec_l02Free.l1 k l x3 (i:Int) (x5 ++ [b]) ((v + 1:Nat):Int)) R') :
  ∀ d j,j + d=ps.length→∀ f:Bool,∃ R',R'.length=8∧Ev (fun k=>spec_l02Free.l2 k l x3 (i:Int) x5 (v:Int) f ps (j:Int)) R':=by
 intro d
 induction d with
 | zero =>
  intro j hj f
  have hx:x5.length < 140737488355328:=by omega
  by_cases c:(rd_T52 l (i:Int)).f0=19
  ·by_cases c2:(rd_T52 l (i:Int)).f2=(v:Int)
   ·obtain ⟨R',h,e⟩:=hE false
    refine ⟨R',h,ev_succ ?_⟩
    simp only [spec_l02Free.l2,if_neg (show ¬ (j:Int) < (ps.length:Int) by omega),if_pos (show 0≤(i:Int) by omega),if_pos (show (i:Int) < (l.length:Int) by omega),if_pos c,if_pos c2,if_pos hx,w64s v (show v < 4611686018427387904 by omega)]
    exact e
   ·obtain ⟨R',h,e⟩:=hE f
    refine ⟨R',h,ev_succ ?_⟩
    simp only [spec_l02Free.l2,if_neg (show ¬ (j:Int) < (ps.length:Int) by omega),if_pos (show 0≤(i:Int) by omega),if_pos (show (i:Int) < (l.length:Int) by omega),if_pos c,if_neg c2,if_pos hx,w64s v (show v < 4611686018427387904 by omega)]
    exact e
  ·by_cases c1:(rd_T52 l (i:Int)).f0=20
   ·by_cases c2:(rd_T52 l (i:Int)).f2=(v:Int)
    ·obtain ⟨R',h,e⟩:=hE false
     refine ⟨R',h,ev_succ ?_⟩
     simp only [spec_l02Free.l2,if_neg (show ¬ (j:Int) < (ps.length:Int) by omega),if_pos (show 0≤(i:Int) by omega),if_pos (show (i:Int) < (l.length:Int) by omega),if_neg c,if_pos c1,if_pos c2,if_pos hx,w64s v (show v < 4611686018427387904 by omega)]
     exact e
    ·obtain ⟨R',h,e⟩:=hE f
     refine ⟨R',h,ev_succ ?_⟩
     simp only [spec_l02Free.l2,if_neg (show ¬ (j:Int) < (ps.length:Int) by omega),if_pos (show 0≤(i:Int) by omega),if_pos (show (i:Int) < (l.length:Int) by omega),if_neg c,if_pos c1,if_neg c2,if_pos hx,w64s v (show v < 4611686018427387904 by omega)]
     exact e
   ·obtain ⟨R',h,e⟩:=hE f
    refine ⟨R',h,ev_succ ?_⟩
    simp only [spec_l02Free.l2,if_neg (show ¬ (j:Int) < (ps.length:Int) by omega),if_pos (show 0≤(i:Int) by omega),if_pos (show (i:Int) < (l.length:Int) by omega),if_neg c,if_neg c1,if_pos hx,w64s v (show v < 4611686018427387904 by omega)]
    exact e
 | succ d ih =>
  intro j hj f
  cases f with
  | true =>
   obtain ⟨R',h,e⟩:=ih (j + 1) (by omega) true
   refine ⟨R',h,ev_succ ?_⟩
   simp only [spec_l02Free.l2,if_pos (show (j:Int) < (ps.length:Int) by omega),if_true,w64s j (show j < 4611686018427387904 by omega)]
   exact e
  | false =>
   have hm:rd ps (j:Int)∈ps:=by rw [rd_nat,getD_lt ps j _ (by omega)];exact List.getElem_mem _
   obtain ⟨p0,p1⟩:=hp _ hm
   obtain ⟨q,hq⟩:=Int.eq_ofNat_of_zero_le p0
   have hr8:(rd_L5 x3 (rd ps (j:Int))).length=8:=by
    rw [hq]
    exact h8 q (by omega)
   obtain ⟨R',h,e⟩:=ih (j + 1) (by omega) (rdOf false (rd_L5 x3 (rd ps (j:Int))) (v:Int))
   refine ⟨R',h,ev_succ ?_⟩
   simp only [spec_l02Free.l2,if_pos (show (j:Int) < (ps.length:Int) by omega),Bool.false_eq_true,if_false,if_pos (show 0≤(j:Int) by omega),if_pos p0,if_pos (show rd ps (j:Int) < (x3.length:Int) by omega),if_pos (show 0≤(v:Int) by omega),hr8,if_pos (show (v:Int) < ((8:Nat):Int) by omega),w64s j (show j < 4611686018427387904 by omega)]
   exact e
theorem free1_ok (l:List S52) (hT:tmF l=true) (hn:l.length≤1048576) (x3:List (List Bool)) (i:Nat) (hi:i < l.length) (h3:x3.length=i) (h8:r8 x3)
  (hE:∀ row:List Bool,row.length=8→∃ R',R'.length=8∧Ev (fun k=>spec_l02Free.l0 k l (x3 ++ [row]) ((i + 1:Nat):Int)) R') :
  ∀ d v,v + d=8→∀ x5:List Bool,x5.length=v→∃ R',R'.length=8∧Ev (fun k=>spec_l02Free.l1 k l x3 (i:Int) x5 (v:Int)) R':=by
 intro d
 induction d with
 | zero =>
  intro v hv x5 h5
  obtain ⟨R',h,e⟩:=hE x5 (by omega)
  refine ⟨R',h,ev_succ ?_⟩
  simp only [spec_l02Free.l1,if_neg (show ¬ (v:Int) < 8 by omega),if_pos (show x3.length < 5864062014805 by omega),w64s i (show i < 4611686018427387904 by omega)]
  exact e
 | succ d ih =>
  intro v hv x5 h5
  have key:=free2_ok l x3 i v hi hn h3 h8 (by omega) x5 h5 [] (np (rd_T52 l (i:Int))) (np_length _) (tm_parts l hT i hi) (fun _=>Or.inr trivial) (fun b=>ih (v + 1) (by omega) (x5 ++ [b]) (by simp [h5])) (np (rd_T52 l (i:Int))).length 0 (by omega)
  have kj:∀ f:Bool,∃ R',R'.length=8∧Ev (fun k=>spec_l02Free.j2 k l x3 (i:Int) x5 (v:Int) f) R':=fun f=>by
   obtain ⟨R',h,e⟩:=key f
   refine ⟨R',h,ev_succ ?_⟩
   simp only [spec_l02Free.j2,if_pos (show 0≤(i:Int) by omega),if_pos (show (i:Int) < (l.length:Int) by omega)]
   exact ev_bind (f:=fun k t=>spec_l02Free.l2 k l x3 (i:Int) x5 (v:Int) f t 0) (np_ev _) e
  by_cases c:(rd_T52 l (i:Int)).f0=1
  ·obtain ⟨R',h,e⟩:=kj ((rd_T52 l (i:Int)).f2 == (v:Int))
   refine ⟨R',h,ev_succ ?_⟩
   simp only [spec_l02Free.l1,if_pos (show (v:Int) < 8 by omega),if_pos (show 0≤(i:Int) by omega),if_pos (show (i:Int) < (l.length:Int) by omega),if_pos c]
   exact e
  ·obtain ⟨R',h,e⟩:=kj false
   refine ⟨R',h,ev_succ ?_⟩
   simp only [spec_l02Free.l1,if_pos (show (v:Int) < 8 by omega),if_pos (show 0≤(i:Int) by omega),if_pos (show (i:Int) < (l.length:Int) by omega),if_neg c]
   exact e
theorem free0_ok (l:List S52) (hT:tmF l=true) (hn:l.length≤1048576):∃ R',R'.length=8∧Ev (fun k=>spec_l02Free.f k l) R':=by
 have hpos:=tm_pos hT
 have hw:wrap64 ((l.length:Int) - 1)=(l.length:Int) - 1:=w64 (by omega) (by omega)
 have main:∀ d i,i + d=l.length→∀ x3:List (List Bool),x3.length=i→r8 x3→∃ R',R'.length=8∧Ev (fun k=>spec_l02Free.l0 k l x3 (i:Int)) R':=by
  intro d
  induction d with
  | zero =>
   intro i hi x3 h3 h8
   refine ⟨rd_L5 x3 ((l.length:Int) - 1),?_,ev_succ ?_⟩
   ·have:=h8 (l.length - 1) (by omega)
    rw [show ((l.length:Int) - 1)=((l.length - 1:Nat):Int) from by omega]
    exact this
   ·simp only [spec_l02Free.l0,if_neg (show ¬ (i:Int) < (l.length:Int) by omega),hw,if_pos (show 0≤(l.length:Int) - 1 by omega),if_pos (show (l.length:Int) - 1 < (x3.length:Int) by omega)]
    exact ev_some _
  | succ d ih =>
   intro i hi x3 h3 h8
   obtain ⟨R',h,e⟩:=free1_ok l hT hn x3 i (by omega) h3 h8 (fun row hr=>ih (i + 1) (by omega) (x3 ++ [row]) (by simp [h3]) (fun p hp=>by
    simp only [List.length_append,List.length_singleton] at hp
    rw [List.getD_eq_getElem?_getD]
    by_cases hpl:p < x3.length
    ·rw [List.getElem?_append_left hpl,← List.getD_eq_getElem?_getD]
     exact h8 p hpl
    ·rw [List.getElem?_append_right (by omega),show p - x3.length=0 by omega]
     exact hr)) 8 0 (by omega) [] rfl
   refine ⟨R',h,ev_succ ?_⟩
   simp only [spec_l02Free.l0,if_pos (show (i:Int) < (l.length:Int) by omega)]
   exact e
 exact main l.length 0 (by omega) [] rfl (fun p hp=>by simp at hp)
theorem free_ok (l:List S52) (hT:tmF l=true) (hn:l.length≤1048576):∃ r,Ev (fun k=>spec_Free.f k l) r:=by
 obtain ⟨is,h8,e⟩:=free0_ok l hT hn
 have main:∀ d i,i + d=8→∀ out:List Int,out.length≤i→∃ r,Ev (fun k=>spec_Free.l0 k out is (i:Int)) r:=by
  intro d
  induction d with
  | zero =>
   intro i hi out ho
   refine ⟨out,ev_succ ?_⟩
   simp only [spec_Free.l0,if_neg (show ¬ (i:Int) < 8 by omega)]
   exact ev_some _
  | succ d ih =>
   intro i hi out ho
   cases hb:rdOf false is (i:Int) with
   | true =>
    obtain ⟨r,e⟩:=ih (i + 1) (by omega) (out ++ [(i:Int)]) (by simp;omega)
    refine ⟨r,ev_succ ?_⟩
    simp only [spec_Free.l0,if_pos (show (i:Int) < 8 by omega),if_pos (show 0≤(i:Int) by omega),if_pos (show (i:Int) < (is.length:Int) by omega),hb,if_true,if_pos (show out.length < 17592186044416 by omega),w64s i (show i < 4611686018427387904 by omega)]
    exact e
   | false =>
    obtain ⟨r,e⟩:=ih (i + 1) (by omega) out (by omega)
    refine ⟨r,ev_succ ?_⟩
    simp only [spec_Free.l0,if_pos (show (i:Int) < 8 by omega),if_pos (show 0≤(i:Int) by omega),if_pos (show (i:Int) < (is.length:Int) by omega),hb,Bool.false_eq_true,if_false,w64s i (show i < 4611686018427387904 by omega)]
    exact e
 obtain ⟨r,e2⟩:=main 8 0 (by omega) [] (by simp)
 refine ⟨r,?_⟩
 unfold spec_Free.f
 simp only [Option.bind_some]
 refine ev_bind (a:=true) (f:=fun k t104=>if t104=true then ((spec_l02Free.f k l).bind fun t105=>(spec_Free.l0 k [] t105 0)) else some []) (by rw [← hT];exact termS l hn) ?_
 simp only [if_true]
 exact ev_bind (f:=fun k t105=>spec_Free.l0 k [] t105 0) e e2
def hoL (l:List S52):Nat→List Bool
 | 0=>[]
 | n + 1=>hoL l n ++ [qu (rd_T52 l (n:Int)).f0 || (np (rd_T52 l (n:Int))).any fun p=>rdOf false (hoL l n) p]
theorem hoL_length (l:List S52) (n:Nat):(hoL l n).length=n:=by
 induction n with
 | zero=>rfl
 | succ n ih=>simp [hoL,ih]
theorem hold_ev (l:List S52) (hT:tmF l=true) (hn:l.length≤1048576):Ev (fun k=>spec_l02Holder.f k l) (hoL l l.length):=by
 have main:∀ i,i≤l.length→Ev (fun k=>spec_l02Holder.l0 k l (hoL l i) (i:Int)) (hoL l l.length):=by
  refine ev_loop (fun k i=>spec_l02Holder.l0 k l (hoL l i) (i:Int)) l.length _ (fun i hi h=>?_) ?_
  ·have hp:=tm_parts l hT i hi
   have hl:=hoL_length l i
   have inner:∀ ps:List Int,(∀ p∈ps,0≤p∧p≤(i:Int) - 1)→ps.length≤3→∀ d j,j + d=ps.length→∀ f:Bool,Ev (fun k=>spec_l02Holder.l0 k l (hoL l i ++ [f || (ps.drop j).any fun p=>rdOf false (hoL l i) p]) ((i + 1:Nat):Int)) (hoL l l.length)→Ev (fun k=>spec_l02Holder.l1 k l (hoL l i) (i:Int) f ps (j:Int)) (hoL l l.length):=by
    intro ps hp hl3 d
    induction d with
    | zero =>
     intro j hj f e
     refine ev_succ ?_
     simp only [spec_l02Holder.l1,if_neg (show ¬ (j:Int) < (ps.length:Int) by omega),if_pos (show (hoL l i).length < 140737488355328 by omega),w64s i (show i < 4611686018427387904 by omega)]
     rw [List.drop_of_length_le (by omega),List.any_nil,Bool.or_false] at e
     exact e
    | succ d ih =>
     intro j hj f e
     have hjl:j < ps.length:=by omega
     have hrd:rd ps (j:Int)=ps[j]:=by rw [rd_nat,getD_lt ps j _ hjl]
     rw [List.drop_eq_getElem_cons hjl,List.any_cons,← Bool.or_assoc] at e
     refine ev_succ ?_
     cases f with
     | true =>
      simp only [spec_l02Holder.l1,if_pos (show (j:Int) < (ps.length:Int) by omega),if_true,w64s j (show j < 4611686018427387904 by omega)]
      exact ih (j + 1) (by omega) true (by simpa using e)
     | false =>
      obtain ⟨p0,p1⟩:=hp _ (List.getElem_mem hjl)
      simp only [spec_l02Holder.l1,if_pos (show (j:Int) < (ps.length:Int) by omega),Bool.false_eq_true,if_false,if_pos (show 0≤(j:Int) by omega),hrd,if_pos p0,if_pos (show ps[j] < ((hoL l i).length:Int) by omega),w64s j (show j < 4611686018427387904 by omega)]
      exact ih (j + 1) (by omega) _ (by simpa using e)
   refine ev_succ ?_
   simp only [spec_l02Holder.l0,if_pos (show (i:Int) < (l.length:Int) by omega),if_pos (show 0≤(i:Int) by omega),quS,Option.bind_some]
   refine ev_bind (f:=fun k t=>spec_l02Holder.l1 k l (hoL l i) (i:Int) (qu (rd_T52 l (i:Int)).f0) t 0) (np_ev _) ?_
   exact inner _ hp (np_length _) _ 0 (by rw [Nat.zero_add]) _ h
  ·refine ev_succ ?_
   simp only [spec_l02Holder.l0,if_neg (show ¬ (l.length:Int) < (l.length:Int) by omega)]
   exact ev_some _
 exact main 0 (by omega)
theorem hoL_get (l:List S52) (i:Nat):∀ n,i < n→rdOf false (hoL l n) (i:Int)=(qu (rd_T52 l (i:Int)).f0 || (np (rd_T52 l (i:Int))).any fun p=>rdOf false (hoL l i) p):=by
 intro n
 induction n with
 | zero=>intro h;omega
 | succ n ih =>
  intro h
  rw [rdOf_nat']
  simp only [hoL]
  rw [List.getD_eq_getElem?_getD]
  by_cases hin:i < n
  ·rw [List.getElem?_append_left (by rw [hoL_length];exact hin),← List.getD_eq_getElem?_getD,← rdOf_nat']
   exact ih hin
  ·obtain rfl:i=n:=by omega
   rw [List.getElem?_append_right (by rw [hoL_length];omega),hoL_length,Nat.sub_self]
   rfl
theorem hoL_same (l:List S52) (i n m:Nat) (h1:i < n) (h2:i < m):rdOf false (hoL l n) (i:Int)=rdOf false (hoL l m) (i:Int):=by rw [hoL_get l i n h1,hoL_get l i m h2]
theorem quB_eq (o:Int):quB o=qu o:=by
 unfold quB qu
 by_cases h:o=19
 ·rw [if_pos h,decide_eq_true (Or.inl h)]
 ·rw [if_neg h]
  by_cases h2:o=20
  ·rw [decide_eq_true (Or.inr h2),beq_iff_eq.2 h2]
  ·rw [decide_eq_false (by omega),beq_eq_false_iff_ne.2 h2]
theorem qu_iff (o:Int):qu o=true↔o=19∨o=20:=by unfold qu;exact decide_eq_true_iff
theorem ouB_ops {o:Int} (h:ouB o=true):o=2∨o=3∨o=4∨qu o=true:=by
 unfold ouB at h
 by_cases h2:o=2
 ·exact Or.inl h2
 rw [if_neg h2] at h
 by_cases h3:o=3
 ·exact Or.inr (Or.inl h3)
 rw [if_neg h3] at h
 by_cases h4:o=4
 ·exact Or.inr (Or.inr (Or.inl h4))
 rw [if_neg h4,quB_eq] at h
 exact Or.inr (Or.inr (Or.inr h))
theorem tm_nd (l:List S52) (h:tmF l=true) (i:Nat) (hi:i < l.length):ndF (l.take i) (rd_T52 l (i:Int))=true:=by
 unfold tmF at h
 rw [Bool.and_eq_true] at h
 exact tmA_at l l.length 0 h.2 i (by omega) (by omega)
theorem rd_take (l:List S52) (i p:Nat) (h:p < i):rd_T52 (l.take i) (p:Int)=rd_T52 l (p:Int):=by
 unfold rd_T52
 rw [List.getD_eq_getElem?_getD,List.getD_eq_getElem?_getD,List.getElem?_take,if_pos (by omega)]
theorem tm_qu (l:List S52) (h:tmF l=true) (i:Nat) (hi:i < l.length) (hq:qu (rd_T52 l (i:Int)).f0=true) :
  (0≤(rd_T52 l (i:Int)).f2∧(rd_T52 l (i:Int)).f2≤7)∧(1≤(rd_T52 l (i:Int)).f4∧(rd_T52 l (i:Int)).f4≤8)∧np (rd_T52 l (i:Int))=[(rd_T52 l (i:Int)).f3]∧(rd_T52 l (i:Int)).f1=1∧(rd_T52 l (rd_T52 l (i:Int)).f3).f1=1:=by
 have hn:=tm_nd l h i hi
 have hp:=tm_parts l h i hi
 have hnp:np (rd_T52 l (i:Int))=[(rd_T52 l (i:Int)).f3]:=by
  unfold np parts
  rw [if_pos (Or.inr (Or.inr hq))]
 rw [hnp] at hp
 have hp0:=hp _ (List.mem_singleton.2 rfl)
 have hq':=(qu_iff _).1 hq
 unfold ndF at hn
 simp only [Bool.and_eq_true] at hn
 obtain ⟨_,_,_,_,ho⟩:=hn
 unfold opF at ho
 rw [if_neg (by omega),if_neg (by omega),if_neg (by omega),if_neg (by omega),if_neg (by omega),if_neg (by omega),if_neg (by omega),if_neg (by omega)] at ho
 simp only [Bool.and_eq_true,beq_iff_eq] at ho
 obtain ⟨h1,h2,h3,h4⟩:=ho
 refine ⟨of_decide_eq_true h1,of_decide_eq_true h2,hnp,h4,?_⟩
 unfold w3 at h3
 rw [hnp,if_pos (show 0 < [(rd_T52 l (i:Int)).f3].length by simp)] at h3
 obtain ⟨p,hp'⟩:=Int.eq_ofNat_of_zero_le hp0.1
 have:rd [(rd_T52 l (i:Int)).f3] ((0:Nat):Int)=(p:Int):=by rw [hp'];rfl
 rw [this,rd_take l i p (by omega)] at h3
 rw [hp']
 exact h3
abbrev rQ (l:List S52) (M:List Bool) (j:Nat):Prop:=rdOf false M (j:Int)=true∧qu (rd_T52 l (j:Int)).f0=true
structure snI (l:List S52) (M:List Bool) (i:Nat) (ws:List Int):Prop where
 at_:∀ j,j < i→rQ l M j→rd ws (rd_T52 l (j:Int)).f2=(rd_T52 l (j:Int)).f4
 one:∀ j j',j < i→j' < i→rQ l M j→rQ l M j'→(rd_T52 l (j:Int)).f2=(rd_T52 l (j':Int)).f2→j=j'
 has:∀ v:Nat,v < 8→rd ws (v:Int)≠0→∃ j,j < i∧rQ l M j∧(rd_T52 l (j:Int)).f2=(v:Int)
theorem rd_set (ws:List Int) (K v:Int) (j:Int) (hK:0≤K) (hj:0≤j) (hl:K < (ws.length:Int)):rd (ws.set K.toNat v) j=if j=K then v else rd ws j:=by
 unfold rd
 rw [List.getD_eq_getElem?_getD,List.getD_eq_getElem?_getD,List.getElem?_set]
 by_cases e:j=K
 ·subst e
  rw [if_pos rfl,if_pos rfl,if_pos (by omega)]
  rfl
 ·rw [if_neg e,if_neg (by omega)]
theorem snW_ok (l:List S52) (hT:tmF l=true) (hn:l.length≤1048576) (M:List Bool) (hM:M.length=l.length):∀ d i,i + d=l.length→∀ ws:List Int,ws.length=8→snI l M i ws→∃ o,Ev (fun k=>snW k l M (i:Int) ws) o∧∀ ws',o=some ws'→ws'.length=8∧snI l M l.length ws':=by
 intro d
 induction d with
 | zero =>
  intro i hi ws hw I
  obtain rfl:i=l.length:=by omega
  refine ⟨some ws,ev_succ ?_,fun ws' e=>by cases e;exact ⟨hw,I⟩⟩
  simp only [snW,if_neg (show ¬ (l.length:Int) < (l.length:Int) by omega)]
  exact ev_some _
 | succ d ih =>
  intro i hi ws hw I
  by_cases c:rdOf false M (i:Int)=true∧quB (rd_T52 l (i:Int)).f0=true
  ·have hq:qu (rd_T52 l (i:Int)).f0=true:=by rw [← quB_eq];exact c.2
   obtain ⟨k0,b0,_⟩:=tm_qu l hT i (by omega) hq
   by_cases z:rd ws (rd_T52 l (i:Int)).f2=0
   ·refine Exists.elim (ih (i + 1) (by omega) (ws.set (rd_T52 l (i:Int)).f2.toNat (rd_T52 l (i:Int)).f4) (by rw [List.length_set];exact hw) ⟨fun j hj hQ=>?_,fun j j' hj hj' hQ hQ' he=>?_,fun v hv h=>?_⟩) (fun o eh_=>?_)
    rotate_right 1
    ·obtain ⟨e,h⟩:=eh_
     refine ⟨o,ev_succ ?_,h⟩
     simp only [snW,if_pos (show (i:Int) < (l.length:Int) by omega),if_pos (show 0≤(i:Int)∧(i:Int) < (M.length:Int) by omega),if_pos c,if_pos (show 0≤(rd_T52 l (i:Int)).f2∧(rd_T52 l (i:Int)).f2 < (ws.length:Int) by omega),if_pos z,w64s i (show i < 4611686018427387904 by omega)]
     exact e
    ·have kj:=(tm_qu l hT j (by omega) hQ.2).1
     rw [rd_set _ _ _ _ k0.1 kj.1 (by omega)]
     by_cases hji:j=i
     ·subst hji
      rw [if_pos rfl]
     ·have h1:=I.at_ j (by omega) hQ
      have h2:=(tm_qu l hT j (by omega) hQ.2).2.1
      rw [if_neg (fun e=>by rw [e] at h1;omega)]
      exact h1
    ·have key:∀ j,j < i→rQ l M j→(rd_T52 l (j:Int)).f2≠(rd_T52 l (i:Int)).f2:=fun j hj hQ e=>by
      have h1:=I.at_ j hj hQ
      have h2:=(tm_qu l hT j (by omega) hQ.2).2.1
      rw [e] at h1
      omega
     by_cases h1:j=i
     ·by_cases h2:j'=i
      ·omega
      ·subst h1
       exact absurd he.symm (key j' (by omega) hQ')
     ·by_cases h2:j'=i
      ·subst h2
       exact absurd he (key j (by omega) hQ)
      ·exact I.one j j' (by omega) (by omega) hQ hQ' he
    ·rw [rd_set _ _ _ _ k0.1 (by omega) (by omega)] at h
     by_cases e:(v:Int)=(rd_T52 l (i:Int)).f2
     ·exact ⟨i,by omega,⟨c.1,hq⟩,e.symm⟩
     ·rw [if_neg e] at h
      obtain ⟨j,h1,h2,h3⟩:=I.has v hv h
      exact ⟨j,by omega,h2,h3⟩
   ·refine ⟨none,ev_succ ?_,fun ws' e=>by cases e⟩
    simp only [snW,if_pos (show (i:Int) < (l.length:Int) by omega),if_pos (show 0≤(i:Int)∧(i:Int) < (M.length:Int) by omega),if_pos c,if_pos (show 0≤(rd_T52 l (i:Int)).f2∧(rd_T52 l (i:Int)).f2 < (ws.length:Int) by omega),if_neg z]
    exact ev_some _
  ·have hno:∀ j,j < i + 1→rQ l M j→j < i:=fun j hj hQ=>by
    rcases Nat.lt_succ_iff_lt_or_eq.1 hj with h|rfl
    ·exact h
    ·exact absurd ⟨hQ.1,by rw [quB_eq];exact hQ.2⟩ c
   obtain ⟨o,e,h⟩:=ih (i + 1) (by omega) ws hw ⟨fun j hj hQ=>I.at_ j (hno j hj hQ) hQ,fun j j' hj hj' hQ hQ' he=>I.one j j' (hno j hj hQ) (hno j' hj' hQ') hQ hQ' he,fun v hv h=>by
    obtain ⟨j,h1,h2⟩:=I.has v hv h
    exact ⟨j,by omega,h2⟩⟩
   refine ⟨o,ev_succ ?_,h⟩
   simp only [snW,if_pos (show (i:Int) < (l.length:Int) by omega),if_pos (show 0≤(i:Int)∧(i:Int) < (M.length:Int) by omega),if_neg c,w64s i (show i < 4611686018427387904 by omega)]
   exact e
def cntU (l:List S52) (M:List Bool):Nat→Nat→Nat
 | 0,_=>0
 | i + 1,p=>cntU l M i p + (if rdOf false M (i:Int)=true then (np (rd_T52 l (i:Int))).count (p:Int) else 0)
theorem cntU_le (l:List S52) (M:List Bool) (p:Nat):∀ i,cntU l M i p≤3 * i:=by
 intro i
 induction i with
 | zero=>simp [cntU]
 | succ i ih =>
  simp only [cntU]
  have h1:=np_length (rd_T52 l (i:Int))
  have h2:=List.count_le_length (a:=(p:Int)) (l:=np (rd_T52 l (i:Int)))
  split <;> omega
theorem snP_ok (n:Nat) (hn:n≤1048576) (ps:List Int) (hl:ps.length≤3) (hp:∀ p∈ps,0≤p∧p < (n:Int)):∀ d j,j + d=ps.length→∀ us:List Int,us.length=n→(∀ p:Nat,p < n→0≤rd us (p:Int)∧rd us (p:Int)≤4000000 + (j:Int)) →
  ∃ us',Ev (fun k=>snP k ps (j:Int) us) us'∧us'.length=n∧∀ p:Nat,p < n→rd us' (p:Int)=rd us (p:Int) + (((ps.drop j).count (p:Int):Nat):Int):=by
 intro d
 induction d with
 | zero =>
  intro j hj us hu hb
  refine ⟨us,ev_succ ?_,hu,fun p hp=>by rw [List.drop_of_length_le (by omega)];simp⟩
  simp only [snP,if_neg (show ¬ (j:Int) < (ps.length:Int) by omega)]
  exact ev_some _
 | succ d ih =>
  intro j hj us hu hb
  have hjl:j < ps.length:=by omega
  have hr:rd ps (j:Int)=ps[j]:=by rw [rd_nat,getD_lt ps j _ hjl]
  obtain ⟨p0,p1⟩:=hp _ (List.getElem_mem hjl)
  obtain ⟨q,hq⟩:=Int.eq_ofNat_of_zero_le p0
  have hbq:=hb q (by omega)
  have hw:wrap64 (rd us ps[j] + 1)=rd us ps[j] + 1:=by rw [hq];exact w64 (by omega) (by omega)
  obtain ⟨us',e,h1,h2⟩:=ih (j + 1) (by omega) (us.set ps[j].toNat (rd us ps[j] + 1)) (by rw [List.length_set];exact hu) (fun p hp=>by
   rw [rd_set us _ _ _ p0 (by omega) (by omega)]
   have:=hb p hp
   split
   ·rename_i e
    rw [hq]
    omega
   ·omega)
  refine ⟨us',ev_succ ?_,h1,fun p hp=>?_⟩
  ·simp only [snP,if_pos (show (j:Int) < (ps.length:Int) by omega),hr,if_pos (show 0≤(j:Int)∧(0≤ps[j]∧ps[j] < (us.length:Int)) by omega),hw,w64s j (show j < 4611686018427387904 by omega)]
   exact e
  ·rw [h2 p hp,rd_set us _ _ _ p0 (by omega) (by omega),List.drop_eq_getElem_cons hjl,List.count_cons]
   by_cases e:(p:Int)=ps[j]
   ·rw [if_pos e,if_pos (by simp [e]),e]
    push_cast
    omega
   ·rw [if_neg e,if_neg (by simpa using fun h=>e h.symm)]
    push_cast
    omega
structure snV (l:List S52) (M H:List Bool) (ws us:List Int) (i:Nat):Prop where
 us:∀ p:Nat,p < l.length→rd us (p:Int)=((cntU l M i p:Nat):Int)
 var:∀ j,j < i→rdOf false M (j:Int)=true→(rd_T52 l (j:Int)).f0=1→rd ws (rd_T52 l (j:Int)).f2=(rd_T52 l (j:Int)).f1
 out:∀ j,j < i→rdOf false M (j:Int)=true→rdOf false H (j:Int)=true→ouB (rd_T52 l (j:Int)).f0=true
theorem snU_ok (l:List S52) (hT:tmF l=true) (hn:l.length≤1048576) (M H:List Bool) (hM:M.length=l.length) (hH:H.length=l.length) (ws:List Int) (hw:ws.length=8):∀ d i,i + d=l.length→∀ us:List Int,us.length=l.length→snV l M H ws us i→∃ o,Ev (fun k=>snU k l M H ws (i:Int) us) o∧∀ us',o=some us'→us'.length=l.length∧snV l M H ws us' l.length:=by
 intro d
 induction d with
 | zero =>
  intro i hi us hu I
  obtain rfl:i=l.length:=by omega
  refine ⟨some us,ev_succ ?_,fun us' e=>by cases e;exact ⟨hu,I⟩⟩
  simp only [snU,if_neg (show ¬ (l.length:Int) < (l.length:Int) by omega)]
  exact ev_some _
 | succ d ih =>
  intro i hi us hu I
  have hi':i < l.length:=by omega
  cases hm:rdOf false M (i:Int) with
  | false =>
   refine Exists.elim (ih (i + 1) (by omega) us hu ⟨fun p hp=>by rw [I.us p hp];simp [cntU,hm],fun j hj hm1 hm2=>?_,fun j hj hm1 hm2=>?_⟩) (fun o eh_=>?_)
   rotate_right 1
   ·obtain ⟨e,h⟩:=eh_
    refine ⟨o,ev_succ ?_,h⟩
    simp only [snU,if_pos (show (i:Int) < (l.length:Int) by omega),if_pos (show 0≤(i:Int)∧((i:Int) < (M.length:Int)∧(i:Int) < (H.length:Int)) by omega),hm,Bool.false_eq_true,if_false,w64s i (show i < 4611686018427387904 by omega)]
    exact e
   ·rcases Nat.lt_succ_iff_lt_or_eq.1 hj with h|rfl
    ·exact I.var j h hm1 hm2
    ·rw [hm] at hm1;cases hm1
   ·rcases Nat.lt_succ_iff_lt_or_eq.1 hj with h|rfl
    ·exact I.out j h hm1 hm2
    ·rw [hm] at hm1;cases hm1
  | true =>
   have hv:(rd_T52 l (i:Int)).f0=1→0≤(rd_T52 l (i:Int)).f2∧(rd_T52 l (i:Int)).f2 < (ws.length:Int):=fun h=>by have:=tm_var l hT i hi' h;omega
   by_cases c:((rd_T52 l (i:Int)).f0=1∧rd ws (rd_T52 l (i:Int)).f2≠(rd_T52 l (i:Int)).f1)∨(rdOf false H (i:Int)=true∧ouB (rd_T52 l (i:Int)).f0=false)
   ·refine ⟨none,ev_succ ?_,fun us' e=>by cases e⟩
    simp only [snU,if_pos (show (i:Int) < (l.length:Int) by omega),if_pos (show 0≤(i:Int)∧((i:Int) < (M.length:Int)∧(i:Int) < (H.length:Int)) by omega),hm,if_true,if_pos hv,if_pos c]
    exact ev_some _
   ·have hpp:=tm_parts l hT i hi'
    obtain ⟨us1,e1,h1,h2⟩:=snP_ok l.length hn (np (rd_T52 l (i:Int))) (np_length _) (fun p hp=>by have:=hpp p hp;omega) _ 0 (by rw [Nat.zero_add]) us hu (fun p hp=>by rw [I.us p hp];have:=cntU_le l M p i;omega)
    refine Exists.elim (ih (i + 1) (by omega) us1 h1 ⟨fun p hp=>by rw [h2 p hp,I.us p hp,List.drop_zero];simp [cntU,hm],fun j hj hm1 hm2=>?_,fun j hj hm1 hm2=>?_⟩) (fun o eh_=>?_)
    rotate_right 1
    ·obtain ⟨e,h⟩:=eh_
     refine ⟨o,ev_succ ?_,h⟩
     simp only [snU,if_pos (show (i:Int) < (l.length:Int) by omega),if_pos (show 0≤(i:Int)∧((i:Int) < (M.length:Int)∧(i:Int) < (H.length:Int)) by omega),hm,if_true,if_pos hv,if_neg c,w64s i (show i < 4611686018427387904 by omega)]
     exact ev_bind (f:=fun k ps=>(snP k ps 0 us).bind fun us'=>snU k l M H ws ((i + 1:Nat):Int) us') (np_ev _) (ev_bind (f:=fun k us'=>snU k l M H ws ((i + 1:Nat):Int) us') e1 e)
    ·rcases Nat.lt_succ_iff_lt_or_eq.1 hj with h|rfl
     ·exact I.var j h hm1 hm2
     ·exact Classical.byContradiction fun h=>c (Or.inl ⟨hm2,h⟩)
    ·rcases Nat.lt_succ_iff_lt_or_eq.1 hj with h|rfl
     ·exact I.out j h hm1 hm2
     ·exact Classical.byContradiction fun h=>c (Or.inr ⟨hm2,by simpa using h⟩)
theorem snH_ok (l:List S52) (hn:l.length≤1048576) (M H:List Bool) (hM:M.length=l.length) (hH:H.length=l.length) (us:List Int) (hu:us.length=l.length):∀ d i,i + d=l.length→∃ b,Ev (fun k=>snH k l M H us (i:Int)) b∧(b=true→∀ j,i≤j→j < l.length→rdOf false M (j:Int)=true→rdOf false H (j:Int)=true→rd us (j:Int)≤1):=by
 intro d
 induction d with
 | zero =>
  intro i hi
  refine ⟨true,ev_succ ?_,fun _ j h1 h2=>by omega⟩
  simp only [snH,if_neg (show ¬ (i:Int) < (l.length:Int) by omega)]
  exact ev_some _
 | succ d ih =>
  intro i hi
  obtain ⟨b,e,h⟩:=ih (i + 1) (by omega)
  by_cases c:rdOf false M (i:Int)=true∧(rdOf false H (i:Int)=true∧1 < rd us (i:Int))
  ·refine ⟨false,ev_succ ?_,fun h=>by cases h⟩
   simp only [snH,if_pos (show (i:Int) < (l.length:Int) by omega),if_pos (show 0≤(i:Int)∧((i:Int) < (M.length:Int)∧((i:Int) < (H.length:Int)∧(i:Int) < (us.length:Int))) by omega),if_pos c]
   exact ev_some _
  ·refine ⟨b,ev_succ ?_,fun hb j h1 h2 hm hh=>?_⟩
   ·simp only [snH,if_pos (show (i:Int) < (l.length:Int) by omega),if_pos (show 0≤(i:Int)∧((i:Int) < (M.length:Int)∧((i:Int) < (H.length:Int)∧(i:Int) < (us.length:Int))) by omega),if_neg c,w64s i (show i < 4611686018427387904 by omega)]
    exact e
   ·rcases Nat.lt_or_ge i j with h3|h3
    ·exact h hb j (by omega) h2 hm hh
    ·obtain rfl:j=i:=by omega
     exact Classical.byContradiction fun h4=>c ⟨hm,hh,by omega⟩
abbrev mkS (l:List S52):List Bool:=reF l l.length (ms0 l.length)
abbrev hoS (l:List S52):List Bool:=hoL l l.length
structure SnOk (l:List S52):Prop where
 tm:tmF l=true
 root:(rd_T52 l ((l.length:Int) - 1)).f1=1
 ws:∃ ws:List Int,ws.length=8∧snI l (mkS l) l.length ws∧∀ j,j < l.length→rdOf false (mkS l) (j:Int)=true→(rd_T52 l (j:Int)).f0=1→rd ws (rd_T52 l (j:Int)).f2=(rd_T52 l (j:Int)).f1
 out:∀ j,j < l.length→rdOf false (mkS l) (j:Int)=true→rdOf false (hoS l) (j:Int)=true→ouB (rd_T52 l (j:Int)).f0=true
 use:∀ j,j < l.length→rdOf false (mkS l) (j:Int)=true→rdOf false (hoS l) (j:Int)=true→cntU l (mkS l) l.length j≤1
theorem sent_ok (l:List S52) (hn:l.length≤1048576):∃ b,Ev (fun k=>spec_Sentence.f k l) b∧(b=true→SnOk l):=by
 unfold spec_Sentence.f
 cases hT:tmF l with
 | false =>
  refine ⟨false,ev_bind (a:=false) (f:=fun k t=>if t=true then _ else some false) (by rw [← hT];exact termS l hn) ?_,fun h=>by cases h⟩
  simp only [Bool.false_eq_true,if_false]
  exact ev_some _
 | true =>
  have hpos:=tm_pos hT
  have hl80:l.length≤80:=by
   have h:=hT
   unfold tmF at h
   rw [Bool.and_eq_true] at h
   have:=of_decide_eq_true h.1
   omega
  have hw:wrap64 ((l.length:Int) - 1)=(l.length:Int) - 1:=w64 (by omega) (by omega)
  have key:∃ b,Ev (fun k=>if 0≤wrap64 ((l.length:Int) - 1)∧wrap64 ((l.length:Int) - 1) < (l.length:Int) then (if (rd_T52 l (wrap64 ((l.length:Int) - 1))).f1=1 then (spec_Free.f k l).bind fun fr=>if 0 < fr.length then some false else (spec_l02Reach.f k l).bind fun is=>(spec_l02Holder.f k l).bind fun hs=>snR k l is hs else some false) else none) b∧(b=true→SnOk l):=by
   simp only [hw,if_pos (show 0≤(l.length:Int) - 1∧(l.length:Int) - 1 < (l.length:Int) by omega)]
   by_cases hr:(rd_T52 l ((l.length:Int) - 1)).f1=1
   case neg =>
    refine ⟨false,?_,fun h=>by cases h⟩
    simp only [if_neg hr]
    exact ev_some _
   simp only [if_pos hr]
   obtain ⟨fr,ef⟩:=free_ok l hT hn
   by_cases hf:0 < fr.length
   ·refine ⟨false,ev_bind (f:=fun k fr=>if 0 < fr.length then some false else (spec_l02Reach.f k l).bind fun is=>(spec_l02Holder.f k l).bind fun hs=>snR k l is hs) ef ?_,fun h=>by cases h⟩
    simp only [if_pos hf]
    exact ev_some _
   have hM:(mkS l).length=l.length:=by rw [reF_length,ms0_length]
   have hH:(hoS l).length=l.length:=hoL_length l l.length
   obtain ⟨o,ew,hw2⟩:=snW_ok l hT hn (mkS l) hM l.length 0 (by omega) (List.replicate 8 0) rfl ⟨fun j hj=>by omega,fun j j' hj=>by omega,fun v hv h=>by
    rw [rd_nat,List.getD_eq_getElem?_getD,List.getElem?_replicate,if_pos hv] at h
    exact absurd rfl h⟩
   have kR:∃ b,Ev (fun k=>snR k l (mkS l) (hoS l)) b∧(b=true→SnOk l):=by
    unfold snR
    cases o with
    | none =>
     refine ⟨false,ev_bind (f:=fun k o=>match o with|none=>some false|some ws=>if l.length < 17592186044416 then (snU k l (mkS l) (hoS l) ws 0 (List.replicate l.length 0)).bind fun o=>match o with|none=>some false|some us=>snH k l (mkS l) (hoS l) us 0 else none) ew (ev_some _),fun h=>by cases h⟩
    | some ws =>
     obtain ⟨hw8,I⟩:=hw2 ws rfl
     obtain ⟨o2,eu,hu2⟩:=snU_ok l hT hn (mkS l) (hoS l) hM hH ws hw8 l.length 0 (by omega) (List.replicate l.length 0) (by simp) ⟨fun p hp=>by
      rw [rd_nat,List.getD_eq_getElem?_getD,List.getElem?_replicate,if_pos hp]
      rfl,fun j hj=>by omega,fun j hj=>by omega⟩
     cases o2 with
     | none =>
      refine ⟨false,ev_bind (f:=fun k o=>match o with|none=>some false|some ws=>if l.length < 17592186044416 then (snU k l (mkS l) (hoS l) ws 0 (List.replicate l.length 0)).bind fun o=>match o with|none=>some false|some us=>snH k l (mkS l) (hoS l) us 0 else none) ew ?_,fun h=>by cases h⟩
      simp only [if_pos (show l.length < 17592186044416 by omega)]
      exact ev_bind (f:=fun k o=>match o with|none=>some false|some us=>snH k l (mkS l) (hoS l) us 0) eu (ev_some _)
     | some us =>
      obtain ⟨hul,V⟩:=hu2 us rfl
      obtain ⟨b,eh,hb⟩:=snH_ok l hn (mkS l) (hoS l) hM hH us hul l.length 0 (by omega)
      refine ⟨b,ev_bind (f:=fun k o=>match o with|none=>some false|some ws=>if l.length < 17592186044416 then (snU k l (mkS l) (hoS l) ws 0 (List.replicate l.length 0)).bind fun o=>match o with|none=>some false|some us=>snH k l (mkS l) (hoS l) us 0 else none) ew ?_,fun h=>⟨hT,hr,⟨ws,hw8,I,fun j hj=>V.var j hj⟩,fun j hj=>V.out j hj,fun j hj h1 h2=>by
       have h3:=hb h j (by omega) hj h1 h2
       rw [V.us j hj] at h3
       omega⟩⟩
      simp only [if_pos (show l.length < 17592186044416 by omega)]
      exact ev_bind (f:=fun k o=>match o with|none=>some false|some us=>snH k l (mkS l) (hoS l) us 0) eu eh
   obtain ⟨b,eb,hb⟩:=kR
   refine ⟨b,ev_bind (f:=fun k fr=>if 0 < fr.length then some false else (spec_l02Reach.f k l).bind fun is=>(spec_l02Holder.f k l).bind fun hs=>snR k l is hs) ef ?_,hb⟩
   simp only [if_neg hf]
   exact ev_bind (f:=fun k is=>(spec_l02Holder.f k l).bind fun hs=>snR k l is hs) (reachS l hT hn) (ev_bind (f:=fun k hs=>snR k l (mkS l) hs) (hold_ev l hT hn) eb)
  obtain ⟨b,e,h⟩:=key
  refine ⟨b,ev_bind (a:=true) (f:=fun k t=>if t=true then _ else some false) (by rw [← hT];exact termS l hn) ?_,h⟩
  simp only [if_true]
  exact e
theorem fn_plain (l:List S52) (ms:List Bool) (ws:List Int):∀ d i,fnF l ms ws d i=true→∀ j,i≤j→j < i + d→qu (rd_T52 l (j:Int)).f0=false:=by
 intro d
 induction d with
 | zero=>intro i _ j h1 h2;omega
 | succ d ih =>
  intro i h j h1 h2
  simp only [fnF,Bool.and_eq_true] at h
  rcases Nat.lt_or_ge i j with h3|h3
  ·exact ih (i + 1) h.2.2 j (by omega) (by omega)
  ·obtain rfl:j=i:=by omega
   simpa using h.1
noncomputable def apV (o W K A B C w a b c:Int):Int:=if h : -9223372036854775808≤K∧K≤9223372036854775807 then Classical.choose (apApply o W K A B C w a b c h) else 0
theorem apV_ev (o W K A B C w a b c:Int) (h : -9223372036854775808≤K∧K≤9223372036854775807):Ev (fun k=>impl_Apply.f k o W K A B C w a b c) (apV o W K A B C w a b c)∧Ev (fun k=>spec_Apply.f k o W K A B C w a b c) (apV o W K A B C w a b c):=by
 unfold apV
 rw [dif_pos h]
 exact Classical.choose_spec (apApply o W K A B C w a b c h)
def v3 (vs:List Int) (ps:List Int) (q:Nat):Int:=if q < ps.length then rd vs (rd ps (q:Int)) else 0
def wd1 (l:List S52) (ps:List Int):Int:=if 0 < ps.length then (rd_T52 l (rd ps 0)).f1 else 1
noncomputable def oneF (l:List S52) (e vs:List Int) (x:S52):Int :=
 if x.f0=1 then rd e x.f2 else apV x.f0 x.f1 x.f2 x.f3 x.f4 x.f5 (wd1 l (np x)) (v3 vs (np x) 0) (v3 vs (np x) 1) (v3 vs (np x) 2)
noncomputable def vlist (l:List S52) (e:List Int):Nat→List Int
 | 0=>[]
 | i + 1=>vlist l e i ++ [oneF l e (vlist l e i) (rd_T52 l (i:Int))]
theorem vlist_length (l:List S52) (e:List Int) (i:Nat):(vlist l e i).length=i:=by
 induction i with
 | zero=>rfl
 | succ i ih=>simp [vlist,ih]
theorem onL_eq (k:Nat) (l:List S52) (vs:List Int) (hv:vs.length≤l.length) (o a b c:Int) (hp:∀ p∈parts o a b c,0≤p∧p < (vs.length:Int)) :
  onL (k + 4) l vs (parts o a b c) 0 1 [0,0,0]=some (wd1 l (parts o a b c),[v3 vs (parts o a b c) 0,v3 vs (parts o a b c) 1,v3 vs (parts o a b c) 2]):=by
 have h01:wrap64 1=1:=by unfold wrap64;omega
 have h12:wrap64 2=2:=by unfold wrap64;omega
 have h23:wrap64 3=3:=by unfold wrap64;omega
 have len:parts o a b c=[]∨parts o a b c=[a]∨parts o a b c=[a,b]∨parts o a b c=[a,b,c]:=by
  unfold parts
  repeat' split
  all_goals simp
 rcases len with e|e|e|e <;> rw [e] at hp ⊢
 ·simp [onL,wd1,v3]
 ·have h1:=hp a (by simp)
  have g1:a < (l.length:Int):=by omega
  simp [onL,wd1,v3,rd,h01,h1,g1]
 ·have h1:=hp a (by simp)
  have h2:=hp b (by simp)
  have g1:a < (l.length:Int):=by omega
  simp [onL,wd1,v3,rd,h01,h12,h1,h2,g1]
 ·have h1:=hp a (by simp)
  have h2:=hp b (by simp)
  have h3:=hp c (by simp)
  have g1:a < (l.length:Int):=by omega
  simp [onL,wd1,v3,rd,h01,h12,h23,h1,h2,h3,g1]
theorem oneS (l:List S52) (hT:tmF l=true) (hn:l.length≤1048576) (e vs:List Int) (he:e.length=8) (i:Nat) (hi:i < l.length) (hv:vs.length=i) (hq:qu (rd_T52 l (i:Int)).f0=false) (hK : -9223372036854775808≤(rd_T52 l (i:Int)).f2∧(rd_T52 l (i:Int)).f2≤9223372036854775807) :
  Ev (fun k=>spec_l04One.f k l e vs (i:Int)) (oneF l e vs (rd_T52 l (i:Int))):=by
 have hpp:=tm_parts l hT i hi
 unfold spec_l04One.f oneF
 simp only [if_pos (show 0≤(i:Int)∧(i:Int) < (l.length:Int) by omega)]
 by_cases ho:(rd_T52 l (i:Int)).f0=1
 ·have hx:=tm_var l hT i hi ho
  simp only [if_pos ho,if_pos (show 0≤(rd_T52 l (i:Int)).f2∧(rd_T52 l (i:Int)).f2 < (e.length:Int) by omega)]
  exact ev_some _
 ·simp only [if_neg ho,quS,hq,Option.bind_some,Bool.false_eq_true,if_false]
  refine ev_bind (a:=np (rd_T52 l (i:Int))) (f:=fun k ps=>(onL k l vs ps 0 1 [0,0,0]).bind fun q=>spec_Apply.f k (rd_T52 l (i:Int)).f0 (rd_T52 l (i:Int)).f1 (rd_T52 l (i:Int)).f2 (rd_T52 l (i:Int)).f3 (rd_T52 l (i:Int)).f4 (rd_T52 l (i:Int)).f5 q.1 (rd q.2 0) (rd q.2 1) (rd q.2 2)) (ev_step (f:=fun _=>some (np (rd_T52 l (i:Int)))) (fun k=>partsS k _ _ _ _ _ _) (ev_some _)) ?_
  refine ev_bind (a:=(wd1 l (np (rd_T52 l (i:Int))),[v3 vs (np (rd_T52 l (i:Int))) 0,v3 vs (np (rd_T52 l (i:Int))) 1,v3 vs (np (rd_T52 l (i:Int))) 2])) (f:=fun k q=>spec_Apply.f k (rd_T52 l (i:Int)).f0 (rd_T52 l (i:Int)).f1 (rd_T52 l (i:Int)).f2 (rd_T52 l (i:Int)).f3 (rd_T52 l (i:Int)).f4 (rd_T52 l (i:Int)).f5 q.1 (rd q.2 0) (rd q.2 1) (rd q.2 2)) ⟨4,fun k hk=>?_⟩ ?_
  ·obtain ⟨m,rfl⟩:∃ m,k=m + 4:=⟨k - 4,by omega⟩
   exact onL_eq m l vs (by omega) _ _ _ _ (fun p hp=>by have:=hpp p hp;omega)
  ·exact (apV_ev _ _ _ _ _ _ _ _ _ _ hK).2
theorem atS (l:List S52) (hT:tmF l=true) (hn:l.length≤1048576) (e:List Int) (he:e.length=8) (hq:∀ j:Nat,j < l.length→qu (rd_T52 l (j:Int)).f0=false) (hK:∀ j:Nat,j < l.length → -9223372036854775808≤(rd_T52 l (j:Int)).f2∧(rd_T52 l (j:Int)).f2≤9223372036854775807) :
  Ev (fun k=>spec_l04At.f k l e ((l.length:Int) - 1)) (rd (vlist l e l.length) ((l.length:Int) - 1)):=by
 have hp:=tm_pos hT
 have main:∀ j,j≤l.length→Ev (fun k=>atF l e ((l.length:Int) - 1) k (vlist l e j) (j:Int)) (rd (vlist l e l.length) ((l.length:Int) - 1)):=by
  refine ev_loop (fun k j=>atF l e ((l.length:Int) - 1) k (vlist l e j) (j:Int)) l.length _ (fun j hj h=>?_) ?_
  ·refine ev_succ ?_
   simp only [atF,if_pos (show (j:Int)≤(l.length:Int) - 1 by omega)]
   refine ev_bind (a:=oneF l e (vlist l e j) (rd_T52 l (j:Int))) (f:=fun k v=>if (vlist l e j).length < 17592186044416 then atF l e ((l.length:Int) - 1) k (vlist l e j ++ [v]) (wrap64 ((j:Int) + 1)) else none) (oneS l hT hn e (vlist l e j) he j hj (vlist_length l e j) (hq j hj) (hK j hj)) ?_
   simp only [vlist_length,if_pos (show j < 17592186044416 by omega),w64s j (show j < 4611686018427387904 by omega)]
   exact h
  ·refine ev_succ ?_
   simp only [atF,if_neg (show ¬ (l.length:Int)≤(l.length:Int) - 1 by omega),vlist_length,if_pos (show 0≤(l.length:Int) - 1∧(l.length:Int) - 1 < (l.length:Int) by omega)]
   exact ev_some _
 exact main 0 (by omega)
theorem vlist_get (l:List S52) (e:List Int) (i:Nat):∀ n,i < n→(vlist l e n).getD i 0=oneF l e (vlist l e i) (rd_T52 l (i:Int)):=by
 intro n
 induction n with
 | zero=>intro h;omega
 | succ n ih =>
  intro h
  simp only [vlist]
  rw [List.getD_eq_getElem?_getD]
  rcases Nat.lt_or_ge i n with h1|h1
  ·rw [List.getElem?_append_left (by rw [vlist_length];exact h1),← List.getD_eq_getElem?_getD]
   exact ih h1
  ·obtain rfl:i=n:=by omega
   rw [List.getElem?_append_right (by rw [vlist_length];omega),vlist_length,Nat.sub_self]
   rfl
theorem vlist_same (l:List S52) (e:List Int) (i n m:Nat) (h1:i < n) (h2:i < m):(vlist l e n).getD i 0=(vlist l e m).getD i 0:=by rw [vlist_get l e i n h1,vlist_get l e i m h2]
def knOk (V kn:List Int):Prop:=kn.length=V.length∧∀ q:Nat,q < V.length→rd kn (q:Int) < 0∨rd kn (q:Int)=V.getD q 0
theorem knOk_set {V kn:List Int} (h:knOk V kn) (i:Nat):knOk V (kn.set i (V.getD i 0)):=by
 refine ⟨by rw [List.length_set];exact h.1,fun q hq=>?_⟩
 rw [rd_nat,List.getD_eq_getElem?_getD,List.getElem?_set]
 by_cases e:i=q
 ·subst e
  rw [if_pos rfl,if_pos (by rw [h.1];exact hq)]
  exact Or.inr rfl
 ·rw [if_neg e,← List.getD_eq_getElem?_getD,← rd_nat]
  exact h.2 q hq
theorem vaL_ev (l:List S52) (e V:List Int) (hV:V.length=l.length) (P:Int→Prop) (hP:∀ p,P p→0≤p∧p < (l.length:Int)) (ih:∀ p,P p→∀ kn,knOk V kn→∃ kn',knOk V kn'∧Ev (fun k=>vaF k l e p kn) (rd V p,kn'))
  (o a b c:Int) (hp:∀ p∈parts o a b c,P p) (kn:List Int) (hk:knOk V kn):∃ kn',knOk V kn'∧Ev (fun k=>vaL k l e (parts o a b c) kn 0 1 0 0 0) (kn',wd1 l (parts o a b c),v3 V (parts o a b c) 0,v3 V (parts o a b c) 1,v3 V (parts o a b c) 2):=by
 have len:parts o a b c=[]∨parts o a b c=[a]∨parts o a b c=[a,b]∨parts o a b c=[a,b,c]:=by
  unfold parts
  repeat' split
  all_goals simp
 rcases len with e1|e1|e1|e1 <;> rw [e1] at hp ⊢
 ·exact ⟨kn,hk,ev_succ (by simp [vaL,wd1,v3];exact ev_some _)⟩
 ·obtain ⟨k1,h1,g1⟩:=ih a (hp a (by simp)) kn hk
  have b1:=hP a (hp a (by simp))
  refine ⟨k1,h1,ev_succ ?_⟩
  simp only [vaL,List.length_cons,List.length_nil,if_pos (show (0:Int) < ((0 + 1:Nat):Int) by decide),if_pos (show (0:Int)≤0 by decide),if_true]
  refine ev_bind (a:=(rd V a,k1)) (f:=fun k q=>if 0≤rd [a] 0∧rd [a] 0 < (l.length:Int) then vaL k l e [a] q.2 1 (rd_T52 l (rd [a] 0)).f1 q.1 0 0 else none) g1 ?_
  simp only [if_pos (show 0≤rd [a] 0∧rd [a] 0 < (l.length:Int) from b1)]
  exact ev_succ (by simp [vaL,wd1,v3,rd];exact ev_some _)
 ·obtain ⟨k1,h1,g1⟩:=ih a (hp a (by simp)) kn hk
  obtain ⟨k2,h2,g2⟩:=ih b (hp b (by simp)) k1 h1
  have b1:=hP a (hp a (by simp))
  refine ⟨k2,h2,ev_succ ?_⟩
  simp only [vaL,List.length_cons,List.length_nil,if_pos (show (0:Int) < ((0 + 1 + 1:Nat):Int) by decide),if_pos (show (0:Int)≤0 by decide),if_true]
  refine ev_bind (a:=(rd V a,k1)) (f:=fun k q=>if 0≤rd [a,b] 0∧rd [a,b] 0 < (l.length:Int) then vaL k l e [a,b] q.2 1 (rd_T52 l (rd [a,b] 0)).f1 q.1 0 0 else none) g1 ?_
  simp only [if_pos (show 0≤rd [a,b] 0∧rd [a,b] 0 < (l.length:Int) from b1)]
  refine ev_succ ?_
  simp only [vaL,List.length_cons,List.length_nil,if_pos (show (1:Int) < ((0 + 1 + 1:Nat):Int) by decide),if_pos (show (0:Int)≤1 by decide),if_neg (show ¬ (1:Int)=0 by decide),if_true]
  refine ev_bind (a:=(rd V b,k2)) (f:=fun k q=>vaL k l e [a,b] q.2 2 (rd_T52 l (rd [a,b] 0)).f1 (rd V a) q.1 0) g2 ?_
  exact ev_succ (by simp [vaL,wd1,v3,rd];exact ev_some _)
 ·obtain ⟨k1,h1,g1⟩:=ih a (hp a (by simp)) kn hk
  obtain ⟨k2,h2,g2⟩:=ih b (hp b (by simp)) k1 h1
  obtain ⟨k3,h3,g3⟩:=ih c (hp c (by simp)) k2 h2
  have b1:=hP a (hp a (by simp))
  refine ⟨k3,h3,ev_succ ?_⟩
  simp only [vaL,List.length_cons,List.length_nil,if_pos (show (0:Int) < ((0 + 1 + 1 + 1:Nat):Int) by decide),if_pos (show (0:Int)≤0 by decide),if_true]
  refine ev_bind (a:=(rd V a,k1)) (f:=fun k q=>if 0≤rd [a,b,c] 0∧rd [a,b,c] 0 < (l.length:Int) then vaL k l e [a,b,c] q.2 1 (rd_T52 l (rd [a,b,c] 0)).f1 q.1 0 0 else none) g1 ?_
  simp only [if_pos (show 0≤rd [a,b,c] 0∧rd [a,b,c] 0 < (l.length:Int) from b1)]
  refine ev_succ ?_
  simp only [vaL,List.length_cons,List.length_nil,if_pos (show (1:Int) < ((0 + 1 + 1 + 1:Nat):Int) by decide),if_pos (show (0:Int)≤1 by decide),if_neg (show ¬ (1:Int)=0 by decide),if_true]
  refine ev_bind (a:=(rd V b,k2)) (f:=fun k q=>vaL k l e [a,b,c] q.2 2 (rd_T52 l (rd [a,b,c] 0)).f1 (rd V a) q.1 0) g2 ?_
  refine ev_succ ?_
  simp only [vaL,List.length_cons,List.length_nil,if_pos (show (2:Int) < ((0 + 1 + 1 + 1:Nat):Int) by decide),if_pos (show (0:Int)≤2 by decide),if_neg (show ¬ (2:Int)=0 by decide),if_neg (show ¬ (2:Int)=1 by decide),if_true]
  refine ev_bind (a:=(rd V c,k3)) (f:=fun k q=>vaL k l e [a,b,c] q.2 3 (rd_T52 l (rd [a,b,c] 0)).f1 (rd V a) (rd V b) q.1) g3 ?_
  exact ev_succ (by simp [vaL,wd1,v3,rd];exact ev_some _)
theorem vaE (l:List S52) (hT:tmF l=true) (hn:l.length≤1048576) (e:List Int) (he:e.length=8) (hq:∀ j:Nat,j < l.length→qu (rd_T52 l (j:Int)).f0=false) (hK:∀ j:Nat,j < l.length → -9223372036854775808≤(rd_T52 l (j:Int)).f2∧(rd_T52 l (j:Int)).f2≤9223372036854775807) :
  ∀ i:Nat,i < l.length→∀ kn,knOk (vlist l e l.length) kn→∃ kn',knOk (vlist l e l.length) kn'∧Ev (fun k=>vaF k l e (i:Int) kn) (rd (vlist l e l.length) (i:Int),kn'):=by
 intro i
 induction i using Nat.strongRecOn with|ind i ih =>
 intro hi kn hk
 have hV:=vlist_length l e l.length
 have hlen:=hk.1
 rw [hV] at hlen
 have hval:rd (vlist l e l.length) (i:Int)=(vlist l e l.length).getD i 0:=rd_nat _ _
 by_cases h0:0≤rd kn (i:Int)
 ·refine ⟨kn,hk,ev_succ ?_⟩
  simp only [vaF,if_pos (show 0≤(i:Int)∧(i:Int) < (kn.length:Int) by omega),if_pos h0]
  rcases hk.2 i (by omega) with h|h
  ·omega
  ·rw [hval,h]
   exact ev_some _
 by_cases ho:(rd_T52 l (i:Int)).f0=1
 ·have hx:=tm_var l hT i hi ho
  refine ⟨kn.set i (rd (vlist l e l.length) (i:Int)),by rw [hval];exact knOk_set hk i,ev_succ ?_⟩
  simp only [vaF,if_pos (show 0≤(i:Int)∧(i:Int) < (kn.length:Int) by omega),if_neg h0,if_pos (show (i:Int) < (l.length:Int) by omega),if_pos ho,if_pos (show 0≤(rd_T52 l (i:Int)).f2∧(rd_T52 l (i:Int)).f2 < (e.length:Int) by omega),Int.toNat_natCast]
  rw [hval,vlist_get l e i l.length hi,oneF,if_pos ho]
  exact ev_some _
 ·have hpp:=tm_parts l hT i hi
  obtain ⟨kn',hk',g⟩:=vaL_ev l e (vlist l e l.length) hV (fun p=>0≤p∧p≤(i:Int) - 1) (fun p h=>by omega) (fun p h kn hk=>by
   obtain ⟨j,rfl⟩:=Int.eq_ofNat_of_zero_le h.1
   exact ih j (by omega) (by omega) kn hk) (rd_T52 l (i:Int)).f0 (rd_T52 l (i:Int)).f3 (rd_T52 l (i:Int)).f4 (rd_T52 l (i:Int)).f5 hpp kn hk
  have hv3:∀ q,v3 (vlist l e l.length) (np (rd_T52 l (i:Int))) q=v3 (vlist l e i) (np (rd_T52 l (i:Int))) q:=fun q=>by
   unfold v3
   by_cases h:q < (np (rd_T52 l (i:Int))).length
   ·rw [if_pos h,if_pos h]
    have hm:rd (np (rd_T52 l (i:Int))) (q:Int)∈np (rd_T52 l (i:Int)):=by rw [rd_nat,getD_lt _ q _ h];exact List.getElem_mem h
    have:=hpp _ hm
    obtain ⟨j,hj⟩:=Int.eq_ofNat_of_zero_le this.1
    rw [hj,rd_nat,rd_nat]
    exact vlist_same l e j _ _ (by omega) (by omega)
   ·rw [if_neg h,if_neg h]
  refine ⟨kn'.set i (rd (vlist l e l.length) (i:Int)),by rw [hval];exact knOk_set hk' i,ev_succ ?_⟩
  simp only [vaF,if_pos (show 0≤(i:Int)∧(i:Int) < (kn.length:Int) by omega),if_neg h0,if_pos (show (i:Int) < (l.length:Int) by omega),if_neg ho,quI,hq i hi,Option.bind_some,Bool.false_eq_true,if_false,Int.toNat_natCast]
  refine ev_bind (a:=np (rd_T52 l (i:Int))) (f:=fun k ps=>(vaL k l e ps kn 0 1 0 0 0).bind fun q=>(impl_Apply.f k (rd_T52 l (i:Int)).f0 (rd_T52 l (i:Int)).f1 (rd_T52 l (i:Int)).f2 (rd_T52 l (i:Int)).f3 (rd_T52 l (i:Int)).f4 (rd_T52 l (i:Int)).f5 q.2.1 q.2.2.1 q.2.2.2.1 q.2.2.2.2).bind fun v=>some (v,q.1.set i v)) (ev_step (f:=fun _=>some (np (rd_T52 l (i:Int)))) (fun k=>partsI k _ _ _ _ _ _) (ev_some _)) ?_
  refine ev_bind (f:=fun k q=>(impl_Apply.f k (rd_T52 l (i:Int)).f0 (rd_T52 l (i:Int)).f1 (rd_T52 l (i:Int)).f2 (rd_T52 l (i:Int)).f3 (rd_T52 l (i:Int)).f4 (rd_T52 l (i:Int)).f5 q.2.1 q.2.2.1 q.2.2.2.1 q.2.2.2.2).bind fun v=>some (v,q.1.set i v)) g ?_
  refine ev_bind (f:=fun k v=>some (v,kn'.set i v)) (apV_ev _ _ _ _ _ _ _ _ _ _ (hK i hi)).1 ?_
  rw [hval,vlist_get l e i l.length hi,oneF,if_neg ho]
  show Ev _ (apV _ _ _ _ _ _ (wd1 l (np (rd_T52 l (i:Int)))) (v3 (vlist l e i) (np (rd_T52 l (i:Int))) 0) (v3 (vlist l e i) (np (rd_T52 l (i:Int))) 1) (v3 (vlist l e i) (np (rd_T52 l (i:Int))) 2),_)
  rw [← hv3 0,← hv3 1,← hv3 2]
  exact ev_some _
def tiF (q:List S31) (t:Nat):Nat→Nat→Nat→List Int→List Int
 | 0,_,_,xs=>xs
 | d + 1,i,a,xs=>tiF q t d (i + 1) (a - (rd_T31 q (i:Int)).f2.toNat) (xs.set (rd_T31 q (i:Int)).f1.toNat (((t / 2 ^ (a - (rd_T31 q (i:Int)).f2.toNat):Nat):Int) % (2:Int) ^ (rd_T31 q (i:Int)).f2.toNat))
theorem sw_pos (q:List S31) (hw:∀ j:Nat,j < q.length→1≤(rd_T31 q (j:Int)).f2∧(rd_T31 q (j:Int)).f2≤8):∀ d i,i + d≤q.length→0≤swF q d i:=by
 intro d
 induction d with
 | zero=>intro i _;exact Int.le_refl _
 | succ d ih =>
  intro i hi
  have:=ih (i + 1) (by omega)
  have h:=hw i (by omega)
  simp only [swF]
  omega
theorem taI_ev (q:List S31) (hq:q.length≤1048576) (hw:∀ j:Nat,j < q.length→1≤(rd_T31 q (j:Int)).f2∧(rd_T31 q (j:Int)).f2≤8) (hv:∀ j:Nat,j < q.length→0≤(rd_T31 q (j:Int)).f1∧(rd_T31 q (j:Int)).f1≤7) (t:Nat) :
  ∀ d i,i + d=q.length→∀ (a:Nat) (xs:List Int),a≤12→swF q d i≤(a:Int)→xs.length=8→Ev (fun k=>taI k q (t:Int) (i:Int) (a:Int) xs) (tiF q t d i a xs):=by
 intro d
 induction d with
 | zero =>
  intro i hi a xs _ _ _
  refine ev_succ ?_
  simp only [taI,if_neg (show ¬ (i:Int) < (q.length:Int) by omega),tiF]
  exact ev_some _
 | succ d ih =>
  intro i hi a xs ha hs hx
  have h1:=hw i (by omega)
  have h2:=hv i (by omega)
  have h3:=sw_pos q hw d (i + 1) (by omega)
  simp only [swF] at hs
  obtain ⟨w,hw2⟩:=Int.eq_ofNat_of_zero_le (show 0≤(rd_T31 q (i:Int)).f2 by omega)
  have ea:wrap64 ((a:Int) - (rd_T31 q (i:Int)).f2)=((a - (rd_T31 q (i:Int)).f2.toNat:Nat):Int):=by unfold wrap64;omega
  have hle:a - (rd_T31 q (i:Int)).f2.toNat≤12:=by omega
  refine ev_succ ?_
  simp only [taI,tiF,if_pos (show (i:Int) < (q.length:Int) by omega),if_pos (show 0≤(i:Int) by omega),if_pos (show 0≤(rd_T31 q (i:Int)).f1∧(rd_T31 q (i:Int)).f1 < (xs.length:Int) by omega),ea,u64_of (show (0:Int)≤((a - (rd_T31 q (i:Int)).f2.toNat:Nat):Int) by omega) (by omega),if_pos (show (0:Int)≤((a - (rd_T31 q (i:Int)).f2.toNat:Nat):Int) by omega),w64s i (show i < 4611686018427387904 by omega),shr_nat t _ (show a - (rd_T31 q (i:Int)).f2.toNat≤60 by omega)]
  rw [hw2]
  simp only [apCut w (by omega),Option.bind_some,Int.toNat_natCast]
  rw [hw2] at hs
  exact ih (i + 1) (by omega) (a - w) _ (by omega) (by omega) (by rw [List.length_set];exact hx)
theorem tiF_length (q:List S31) (t:Nat):∀ d i a (xs:List Int),(tiF q t d i a xs).length=xs.length:=by
 intro d
 induction d with
 | zero=>intro i a xs;rfl
 | succ d ih=>intro i a xs;simp only [tiF];rw [ih,List.length_set]
def xsF (q:List S31) (n:Nat):Nat→List Int
 | 0=>List.replicate 8 0
 | t + 1=>tiF q t q.length 0 n (xsF q n t)
theorem xsF_length (q:List S31) (n:Nat):∀ t,(xsF q n t).length=8:=by
 intro t
 induction t with
 | zero=>rfl
 | succ t ih=>simp only [xsF];rw [tiF_length,ih]
noncomputable def rootF (q:List S31) (l:List S52) (n t:Nat):Int:=rd (vlist l (xsF q n (t + 1)) l.length) ((l.length:Int) - 1)
noncomputable def sgF (q:List S31) (l:List S52) (n:Nat):List Int:=(List.range (2 ^ n)).map fun t=>48 + rootF q l n t
theorem sgF_length (q:List S31) (l:List S52) (n:Nat):(sgF q l n).length=2 ^ n:=by simp [sgF]
theorem kn0 (V:List Int):knOk V (List.replicate V.length (-1)):=⟨List.length_replicate,fun q hq=>Or.inl (by rw [rd_nat,getD_lt _ q _ (by simpa using hq)];simp)⟩
theorem signI (v:Int) (h:v=0∨v=1):impl_sign.f v=some (48 + v):=by
 rcases h with rfl|rfl <;> decide +kernel
theorem taO_ev (q:List S31) (l:List S52) (n:Nat) (hn12:n≤12) (hq:q.length≤1048576) (hw:∀ j:Nat,j < q.length→1≤(rd_T31 q (j:Int)).f2∧(rd_T31 q (j:Int)).f2≤8) (hv:∀ j:Nat,j < q.length→0≤(rd_T31 q (j:Int)).f1∧(rd_T31 q (j:Int)).f1≤7) (hs:swF q q.length 0=(n:Int))
  (hT:tmF l=true) (hn:l.length≤1048576) (hp:∀ j:Nat,j < l.length→qu (rd_T52 l (j:Int)).f0=false) (hK:∀ j:Nat,j < l.length → -9223372036854775808≤(rd_T52 l (j:Int)).f2∧(rd_T52 l (j:Int)).f2≤9223372036854775807) (hb:∀ t,t < 2 ^ n→rootF q l n t=0∨rootF q l n t=1) :
  Ev (fun k=>taO q l (n:Int) k 0 (List.replicate (2 ^ n) 0) (List.replicate 8 0)) (sgF q l n):=by
 have hpos:=tm_pos hT
 have hN:2 ^ n≤4096:=Nat.le_trans (Nat.pow_le_pow_right (by decide) hn12) (by decide)
 have hsl:=sgF_length q l n
 have hwl:wrap64 ((l.length:Int) - 1)=((l.length - 1:Nat):Int):=by unfold wrap64;omega
 have main:∀ j:Nat,j≤2 ^ n→Ev (fun k=>taO q l (n:Int) k (j:Int) ((sgF q l n).take j ++ (List.replicate (2 ^ n) 0).drop j) (xsF q n j)) (sgF q l n):=by
  refine ev_loop (fun k j=>taO q l (n:Int) k (j:Int) ((sgF q l n).take j ++ (List.replicate (2 ^ n) 0).drop j) (xsF q n j)) (2 ^ n) _ (fun j hj h=>?_) ?_
  ·have hlen:((sgF q l n).take j ++ (List.replicate (2 ^ n) (0:Int)).drop j).length=2 ^ n:=by simp [hsl];omega
   refine ev_succ ?_
   simp only [taO,hlen,if_pos (show (j:Int) < ((2 ^ n:Nat):Int) by omega),if_pos (show 0≤(j:Int) by omega),Int.toNat_natCast,w64s j (show j < 4611686018427387904 by omega),hwl]
   refine ev_bind (a:=xsF q n (j + 1)) (taI_ev q hq hw hv j q.length 0 (by omega) n (xsF q n j) hn12 (by omega) (xsF_length q n j)) ?_
   obtain ⟨kn',hk',g⟩:=vaE l hT hn (xsF q n (j + 1)) (xsF_length q n (j + 1)) hp hK (l.length - 1) (by omega) (List.replicate l.length (-1)) (by have:=kn0 (vlist l (xsF q n (j + 1)) l.length);rw [vlist_length] at this;exact this)
   have er:rd (vlist l (xsF q n (j + 1)) l.length) ((l.length - 1:Nat):Int)=rootF q l n j:=by
    unfold rootF
    rw [show ((l.length - 1:Nat):Int)=(l.length:Int) - 1 from by omega]
   rw [er] at g
   refine ev_bind g ?_
   rw [signI _ (hb j hj)]
   simp only [Option.bind_some]
   rw [tm_front (sgF q l n) (List.replicate (2 ^ n) 0) j _ (by omega) (by simp;exact hj) (by
    unfold sgF
    rw [List.getElem?_map,List.getElem?_range hj]
    rfl)]
   exact h
  ·refine ev_succ ?_
   have hlen:((sgF q l n).take (2 ^ n) ++ (List.replicate (2 ^ n) (0:Int)).drop (2 ^ n)).length=2 ^ n:=by simp [hsl]
   simp only [taO,hlen,if_neg (show ¬ ((2 ^ n:Nat):Int) < ((2 ^ n:Nat):Int) by omega)]
   rw [List.take_of_length_le (by omega),List.drop_of_length_le (by simp),List.append_nil]
   exact ev_some _
 exact main 0 (by omega)
def inW (w v:Int):Prop:=0≤v∧v < (2:Int) ^ w.toNat
theorem inW_zero (w:Int):inW w 0:=⟨Int.le_refl _,Int.pow_pos (by decide)⟩
theorem inW_mod (n:Nat) (x:Int):inW (n:Int) (x % (2:Int) ^ n):=by
 have:(0:Int) < 2 ^ n:=Int.pow_pos (by decide)
 exact ⟨Int.emod_nonneg _ (by omega),Int.emod_lt_of_pos _ this⟩
theorem inW_one (w:Int) (h:1≤w) (v:Int) (hv:v=0∨v=1):inW w v:=by
 obtain ⟨n,rfl⟩:=Int.eq_ofNat_of_zero_le (show 0≤w by omega)
 have h2:(2:Int) ^ 1≤2 ^ n:=by
  have:(2:Nat) ^ 1≤2 ^ n:=Nat.pow_le_pow_right (by decide) (by omega)
  exact_mod_cast this
 unfold inW
 rw [Int.toNat_natCast]
 omega
theorem bits_w (n:Nat) (h8:n≤8) (a b:Int) (ha:inW (n:Int) a) (hb:inW (n:Int) b):inW (n:Int) (Go.bits .and .i64 a b)∧inW (n:Int) (Go.bits .or .i64 a b)∧inW (n:Int) (Go.bits .xor .i64 a b):=by
 obtain ⟨x,rfl⟩:=Int.eq_ofNat_of_zero_le ha.1
 obtain ⟨y,rfl⟩:=Int.eq_ofNat_of_zero_le hb.1
 have hx:x < 2 ^ n:=by have:=ha.2;rw [Int.toNat_natCast] at this;exact_mod_cast this
 have hy:y < 2 ^ n:=by have:=hb.2;rw [Int.toNat_natCast] at this;exact_mod_cast this
 have hN:2 ^ n≤256:=Nat.le_trans (Nat.pow_le_pow_right (by decide) h8) (by decide)
 have mk:∀ z:Nat,z < 2 ^ n→inW (n:Int) (z:Int):=fun z hz=>⟨Int.natCast_nonneg _,by rw [Int.toNat_natCast];exact_mod_cast hz⟩
 refine ⟨?_,?_,?_⟩
 ·rw [and_i64 x y (by omega) (by omega)]
  exact mk _ (Nat.and_lt_two_pow _ hy)
 ·rw [or_i64 x y (by omega) (by omega)]
  exact mk _ (Nat.or_lt_two_pow hx hy)
 ·have e:Go.bits .xor .i64 (x:Int) (y:Int)=((x ^^^ y:Nat):Int):=by
   unfold Go.bits
   show IntKind.i64.wrap (((BitVec.ofInt 64 (x:Int)) ^^^ (BitVec.ofInt 64 (y:Int))).toNat:Int)=_
   rw [BitVec.toNat_xor,BitVec.ofInt_natCast,BitVec.ofInt_natCast,BitVec.toNat_ofNat,BitVec.toNat_ofNat,Nat.mod_eq_of_lt (by omega),Nat.mod_eq_of_lt (by omega)]
   exact wraps_i64 _ (Int.natCast_nonneg _) (by have:=Nat.xor_lt_two_pow hx hy;omega)
  rw [e]
  exact mk _ (Nat.xor_lt_two_pow hx hy)
theorem mkF_keep (ps:List Int):∀ (ms:List Bool) (j:Nat),ms.getD j false=true→(mkF ms ps).getD j false=true:=by
 induction ps with
 | nil=>intro ms j h;exact h
 | cons p ps ih=>intro ms j h;exact ih _ j (mk_keep ms j _ h)
theorem mkF_mem (ps:List Int):∀ (ms:List Bool) (p:Int),p∈ps→p.toNat < ms.length→(mkF ms ps).getD p.toNat false=true:=by
 induction ps with
 | nil=>intro ms p h;cases h
 | cons q ps ih =>
  intro ms p h hp
  rcases List.mem_cons.1 h with rfl|h
  ·refine mkF_keep ps _ _ ?_
   rw [List.getD_eq_getElem?_getD,List.getElem?_set,if_pos rfl,if_pos hp]
   rfl
  ·exact ih _ p h (by rw [List.length_set];exact hp)
theorem mkF_far (ps:List Int):∀ (ms:List Bool) (j:Nat),(∀ p∈ps,p.toNat≠j)→(mkF ms ps).getD j false=ms.getD j false:=by
 induction ps with
 | nil=>intro ms j _;rfl
 | cons q ps ih =>
  intro ms j h
  show (mkF (ms.set q.toNat true) ps).getD j false=_
  rw [ih _ j (fun p hp=>h p (List.mem_cons_of_mem _ hp)),List.getD_eq_getElem?_getD,List.getElem?_set,if_neg (h q (List.mem_cons_self ..)),← List.getD_eq_getElem?_getD]
theorem reF_keep (l:List S52):∀ d (ms:List Bool) (j:Nat),ms.getD j false=true→(reF l d ms).getD j false=true:=by
 intro d
 induction d with
 | zero=>intro ms j h;exact h
 | succ d ih =>
  intro ms j h
  unfold reF
  refine ih _ j ?_
  split
  ·exact mkF_keep _ _ _ h
  ·exact h
theorem reF_high (l:List S52) (hT:tmF l=true):∀ d (ms:List Bool) (j:Nat),d≤j→d≤l.length→(reF l d ms).getD j false=ms.getD j false:=by
 intro d
 induction d with
 | zero=>intro ms j _ _;rfl
 | succ d ih =>
  intro ms j h hd
  unfold reF
  rw [ih _ j (by omega) (by omega)]
  split
  ·exact mkF_far _ _ _ (fun p hp=>by have:=tm_parts l hT d (by omega) p hp;omega)
  ·rfl
theorem reF_parts (l:List S52) (hT:tmF l=true):∀ d (ms:List Bool) (i:Nat),i < d→d≤l.length→ms.length=l.length→(reF l d ms).getD i false=true→∀ p∈np (rd_T52 l (i:Int)),(reF l d ms).getD p.toNat false=true:=by
 intro d
 induction d with
 | zero=>intro ms i h;omega
 | succ d ih =>
  intro ms i h hd hm hi p hp
  unfold reF at hi ⊢
  rcases Nat.lt_or_ge i d with h1|h1
  ·exact ih _ i h1 (by omega) (by split <;> simp [mkF_length,hm]) hi p hp
  ·obtain rfl:i=d:=by omega
   rw [reF_high l hT i _ i (Nat.le_refl _) (by omega)] at hi
   have hpi:=tm_parts l hT i (by omega)
   have hc:rdOf false ms (i:Int)=true:=by
    rw [rdOf_nat']
    split at hi
    ·next h2=>rw [rdOf_nat'] at h2;exact h2
    ·exact hi
   rw [if_pos hc]
   exact reF_keep l i _ _ (mkF_mem _ _ p hp (by have:=hpi p hp;omega))
theorem fwF_keep (q:List S31):∀ d i (ws ws':List Int),fwF q d i ws=some ws'→∀ K:Int,0≤K→rd ws K≠0→rd ws' K=rd ws K:=by
 intro d
 induction d with
 | zero=>intro i ws ws' h K _ _;cases h;rfl
 | succ d ih =>
  intro i ws ws' h K hK hn
  unfold fwF at h
  split at h
  ·next hc =>
   obtain ⟨h1,h2,h3⟩:=hc
   have hne:(rd_T31 q (i:Int)).f1.toNat≠K.toNat:=fun e=>hn (by rw [← show (rd_T31 q (i:Int)).f1=K from by omega];exact h3)
   have e:rd (ws.set (rd_T31 q (i:Int)).f1.toNat (rd_T31 q (i:Int)).f2) K=rd ws K:=by
    unfold rd
    rw [List.getD_eq_getElem?_getD,List.getElem?_set,if_neg hne,← List.getD_eq_getElem?_getD]
   rw [ih (i + 1) _ _ h K hK (by rw [e];exact hn),e]
  ·cases h
theorem fwF_at (q:List S31):∀ d i (ws ws':List Int),ws.length=8→fwF q d i ws=some ws'→∀ j:Nat,i≤j→j < i + d→(0≤(rd_T31 q (j:Int)).f1∧(rd_T31 q (j:Int)).f1≤7)∧(1≤(rd_T31 q (j:Int)).f2∧(rd_T31 q (j:Int)).f2≤8)∧rd ws' (rd_T31 q (j:Int)).f1=(rd_T31 q (j:Int)).f2:=by
 intro d
 induction d with
 | zero=>intro i ws ws' _ _ j h1 h2;omega
 | succ d ih =>
  intro i ws ws' hl h j h1 h2
  unfold fwF at h
  split at h
  ·next hc =>
   rcases Nat.lt_or_ge i j with h3|h3
   ·exact ih (i + 1) _ _ (by rw [List.length_set];exact hl) h j (by omega) (by omega)
   ·obtain rfl:j=i:=by omega
    obtain ⟨g1,g2,g3⟩:=hc
    have e:rd (ws.set (rd_T31 q (j:Int)).f1.toNat (rd_T31 q (j:Int)).f2) (rd_T31 q (j:Int)).f1=(rd_T31 q (j:Int)).f2:=by
     unfold rd
     rw [List.getD_eq_getElem?_getD,List.getElem?_set,if_pos rfl,if_pos (by omega)]
     rfl
    exact ⟨g1,g2,by rw [fwF_keep q d (j + 1) _ _ h _ g1.1 (by rw [e];omega),e]⟩
  ·cases h
def envOk (ws xs:List Int):Prop:=∀ K:Nat,K < 8→inW (rd ws (K:Int)) (rd xs (K:Int))
theorem envOk_zero (ws:List Int):envOk ws (List.replicate 8 0):=fun K hK=>by
 rw [rd_nat (List.replicate 8 0),getD_lt _ K _ (by simpa using hK),List.getElem_replicate]
 exact inW_zero _
theorem tiF_ok (q:List S31) (ws:List Int) (t:Nat):∀ d i,(∀ j:Nat,i≤j→j < i + d→(0≤(rd_T31 q (j:Int)).f1∧(rd_T31 q (j:Int)).f1≤7)∧(1≤(rd_T31 q (j:Int)).f2∧(rd_T31 q (j:Int)).f2≤8)∧rd ws (rd_T31 q (j:Int)).f1=(rd_T31 q (j:Int)).f2) →
  ∀ a (xs:List Int),xs.length=8→envOk ws xs→envOk ws (tiF q t d i a xs):=by
 intro d
 induction d with
 | zero=>intro i _ a xs _ h;exact h
 | succ d ih =>
  intro i hj a xs hx h
  simp only [tiF]
  refine ih (i + 1) (fun j h1 h2=>hj j (by omega) (by omega)) _ _ (by rw [List.length_set];exact hx) ?_
  obtain ⟨g1,g2,g3⟩:=hj i (Nat.le_refl _) (by omega)
  intro K hK
  rw [rd_nat (xs.set _ _),List.getD_eq_getElem?_getD,List.getElem?_set]
  by_cases e:(rd_T31 q (i:Int)).f1.toNat=K
  ·rw [if_pos e,if_pos (by omega),show ((K:Nat):Int)=(rd_T31 q (i:Int)).f1 from by omega,g3]
   obtain ⟨w,hw⟩:=Int.eq_ofNat_of_zero_le (show 0≤(rd_T31 q (i:Int)).f2 by omega)
   rw [hw,Int.toNat_natCast]
   exact inW_mod w _
  ·rw [if_neg e,← List.getD_eq_getElem?_getD,← rd_nat]
   exact h K hK
theorem xsF_ok (q:List S31) (ws:List Int) (n:Nat) (hj:∀ j:Nat,j < q.length→(0≤(rd_T31 q (j:Int)).f1∧(rd_T31 q (j:Int)).f1≤7)∧(1≤(rd_T31 q (j:Int)).f2∧(rd_T31 q (j:Int)).f2≤8)∧rd ws (rd_T31 q (j:Int)).f1=(rd_T31 q (j:Int)).f2):∀ t,envOk ws (xsF q n t):=by
 intro t
 induction t with
 | zero=>exact envOk_zero ws
 | succ t ih=>exact tiF_ok q ws t q.length 0 (fun j _ h=>hj j (by omega)) n _ (xsF_length q n t) ih
theorem fnF_at (l:List S52) (ms:List Bool) (ws:List Int):∀ d i,fnF l ms ws d i=true→∀ j:Nat,i≤j→j < i + d→ms.getD j false=true→(rd_T52 l (j:Int)).f0=1→rd ws (rd_T52 l (j:Int)).f2=(rd_T52 l (j:Int)).f1:=by
 intro d
 induction d with
 | zero=>intro i _ j h1 h2;omega
 | succ d ih =>
  intro i h j h1 h2 hm ho
  simp only [fnF,Bool.and_eq_true] at h
  rcases Nat.lt_or_ge i j with h3|h3
  ·exact ih (i + 1) h.2.2 j (by omega) (by omega) hm ho
  ·obtain rfl:j=i:=by omega
   have h4:=h.2.1
   rw [if_pos (show rdOf false ms (j:Int)=true by rw [rdOf_nat'];exact hm),if_pos ho] at h4
   exact beq_iff_eq.1 h4
end Go.Proofs.YthipjoioicmcnaaGreat.Pure
