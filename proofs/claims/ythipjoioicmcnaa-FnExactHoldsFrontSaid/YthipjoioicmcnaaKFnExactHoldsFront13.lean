-- texts of this session, merged by a program of it (wip/gen/pack.py)
import Derived.Test.YthipjoioicmcnaaKFnExactHoldsFront12
import Derived.Test.YthipjoioicmcnaaKFnExactHoldsFront6
import Derived.Test.YthipjoioicmcnaaKFnExactHoldsFront7
import Derived.Test.YthipjoioicmcnaaKFnExactHoldsFront3
import Derived.Test.YthipjoioicmcnaaKFnExactHoldsFront4
import Derived.Test.YthipjoioicmcnaaKFnExactHoldsFront9
import Derived.Test.YthipjoioicmcnaaKFnExactHoldsFront2
import Derived.Test.YthipjoioicmcnaaKFnExactHoldsFront8
import Derived.Test.YthipjoioicmcnaaKFnExactHoldsFront11
import Derived.Test.YthipjoioicmcnaaKFnExactHoldsFront5
import Derived.Test.YthipjoioicmcnaaKFnExactHoldsFront10
set_option linter.unusedSimpArgs false
set_option linter.unusedVariables false
namespace Go.Proofs.Ythipjoioicmcnaa.Pure
open Go.RowKit Go.Proofs.Ythipjoioicmcnaa.G Go.Proofs.YthipjoioicmcnaaW.PrintWords Go.Proofs.YthipjoioicmcnaaW.PrintLast Go.Proofs.YthipjoioicmcnaaW.PrintMore
theorem tm_front {α:Type} (x y:List α) (i:Nat) (v:α) (hx:i < x.length) (hy:i < y.length) (h:x[i]? = some v):(x.take i ++ y.drop i).set i v=x.take (i + 1) ++ y.drop (i + 1):=by
 apply List.ext_getElem?
 intro j
 rw [List.getElem?_set]
 simp only [List.length_append,List.length_take,List.length_drop,List.getElem?_append,List.getElem?_take,List.getElem?_drop]
 by_cases hj:i=j
 ·subst hj
  rw [if_pos rfl,if_pos (by omega),if_pos (by omega),if_pos (by omega)]
  exact h.symm
 ·rw [if_neg hj]
  by_cases h1:j < i
  ·rw [if_pos (by omega),if_pos (by omega),if_pos (by omega),if_pos (by omega)]
  ·rw [if_neg (by omega),if_neg (by omega)]
   congr 1
   omega
theorem eqQuantS_ev (l:List S66) (hl:l.length≤1048576):Ev (fun k=>laws_eqQuantS.f k l l) true:=by
 unfold laws_eqQuantS.f
 simp only [if_true]
 have main:∀ i,i≤l.length→Ev (fun k=>laws_eqQuantS.l0 k l l (i:Int)) true:=by
  refine ev_loop (fun k i=>laws_eqQuantS.l0 k l l (i:Int)) l.length _ (fun i hi e=>?_) ?_
  ·refine ev_succ ?_
   simp only [laws_eqQuantS.l0,if_pos (show (i:Int) < (l.length:Int) by omega),if_pos (show 0≤(i:Int) by omega),laws_eqQuant.f,bne_self_eq_false,Bool.false_eq_true,if_false,if_true,Option.bind_some,w64s i (show i < 4611686018427387904 by omega)]
   exact e
  ·refine ev_succ ?_
   simp only [laws_eqQuantS.l0,if_neg (show ¬ (l.length:Int) < (l.length:Int) by omega)]
   exact ev_some _
 exact main 0 (by omega)
theorem rdN_nat (L:List S99) (i:Nat):rd_T99 L (i:Int)=L.getD i z99:=by unfold rd_T99;simp
theorem eqNodeS_ev (l:List S99) (hl:l.length≤1048576):Ev (fun k=>laws_eqNodeS.f k l l) true:=by
 unfold laws_eqNodeS.f
 simp only [if_true]
 have main:∀ i,i≤l.length→Ev (fun k=>laws_eqNodeS.l0 k l l (i:Int)) true:=by
  refine ev_loop (fun k i=>laws_eqNodeS.l0 k l l (i:Int)) l.length _ (fun i hi e=>?_) ?_
  ·refine ev_succ ?_
   simp only [laws_eqNodeS.l0,if_pos (show (i:Int) < (l.length:Int) by omega),if_pos (show 0≤(i:Int) by omega),laws_eqNode.f,if_true,Option.bind_some,w64s i (show i < 4611686018427387904 by omega)]
   exact e
  ·refine ev_succ ?_
   simp only [laws_eqNodeS.l0,if_neg (show ¬ (l.length:Int) < (l.length:Int) by omega)]
   exact ev_some _
 exact main 0 (by omega)
def cvQ (l:List S97):List S66:=l.map fun x=>⟨x.f0,x.f1,x.f2⟩
theorem cvQ_length (l:List S97):(cvQ l).length=l.length:=by simp [cvQ]
theorem rdLQ_nat (L:List S97) (i:Nat):rd_T97 L (i:Int)=L.getD i z97:=by unfold rd_T97;simp
theorem toQuantS_ev (l:List S97) (hl:l.length≤1048576):Ev (fun k=>laws_toQuantS.f k l) (cvQ l):=by
 unfold laws_toQuantS.f
 simp only [if_pos (show 0≤(l.length:Int) by omega),Int.toNat_natCast,if_pos (show l.length≤11728124029610 by omega)]
 have hc:=cvQ_length l
 have main:∀ i,i≤l.length→Ev (fun k=>laws_toQuantS.l0 k l ((cvQ l).take i ++ (List.replicate l.length z66).drop i) (i:Int)) (cvQ l):=by
  refine ev_loop (fun k i=>laws_toQuantS.l0 k l ((cvQ l).take i ++ (List.replicate l.length z66).drop i) (i:Int)) l.length _ (fun i hi e=>?_) ?_
  ·refine ev_succ ?_
   simp only [laws_toQuantS.l0,if_pos (show (i:Int) < (l.length:Int) by omega),if_pos (show 0≤(i:Int) by omega),laws_toQuant.f,Int.toNat_natCast,w64s i (show i < 4611686018427387904 by omega),Option.bind_some]
   simp only [if_pos (show (i:Int) < ((((cvQ l).take i ++ (List.replicate l.length z66).drop i)).length:Int) by simp [hc];omega)]
   rw [tm_front (cvQ l) (List.replicate l.length z66) i _ (by simp [hc];exact hi) (by simp;exact hi) (by
    unfold cvQ
    rw [List.getElem?_map,List.getElem?_eq_getElem hi,rdLQ_nat,getD_lt l i _ hi]
    rfl)]
   exact e
  ·refine ev_succ ?_
   simp only [laws_toQuantS.l0,if_neg (show ¬ (l.length:Int) < (l.length:Int) by omega)]
   rw [List.take_of_length_le (by rw [cvQ_length];omega),List.drop_of_length_le (by simp),List.append_nil]
   exact ev_some _
 have:=main 0 (by omega)
 simpa using this
def cvN (l:List S101):List S99:=l.map fun x=>⟨x.f0,x.f1,x.f2,x.f3,x.f4,x.f5⟩
theorem cvN_length (l:List S101):(cvN l).length=l.length:=by simp [cvN]
theorem rdLN_nat (L:List S101) (i:Nat):rd_T101 L (i:Int)=L.getD i z101:=by unfold rd_T101;simp
theorem toNodeS_ev (l:List S101) (hl:l.length≤1048576):Ev (fun k=>laws_toNodeS.f k l) (cvN l):=by
 unfold laws_toNodeS.f
 simp only [if_pos (show 0≤(l.length:Int) by omega),Int.toNat_natCast,if_pos (show l.length≤5864062014805 by omega)]
 have hc:=cvN_length l
 have main:∀ i,i≤l.length→Ev (fun k=>laws_toNodeS.l0 k l ((cvN l).take i ++ (List.replicate l.length z99).drop i) (i:Int)) (cvN l):=by
  refine ev_loop (fun k i=>laws_toNodeS.l0 k l ((cvN l).take i ++ (List.replicate l.length z99).drop i) (i:Int)) l.length _ (fun i hi e=>?_) ?_
  ·refine ev_succ ?_
   simp only [laws_toNodeS.l0,if_pos (show (i:Int) < (l.length:Int) by omega),if_pos (show 0≤(i:Int) by omega),laws_toNode.f,Int.toNat_natCast,w64s i (show i < 4611686018427387904 by omega),Option.bind_some]
   simp only [if_pos (show (i:Int) < ((((cvN l).take i ++ (List.replicate l.length z99).drop i)).length:Int) by simp [hc];omega)]
   rw [tm_front (cvN l) (List.replicate l.length z99) i _ (by simp [hc];exact hi) (by simp;exact hi) (by
    unfold cvN
    rw [List.getElem?_map,List.getElem?_eq_getElem hi,rdLN_nat,getD_lt l i _ hi]
    rfl)]
   exact e
  ·refine ev_succ ?_
   simp only [laws_toNodeS.l0,if_neg (show ¬ (l.length:Int) < (l.length:Int) by omega)]
   rw [List.take_of_length_le (by rw [cvN_length];omega),List.drop_of_length_le (by simp),List.append_nil]
   exact ev_some _
 have:=main 0 (by omega)
 simpa using this
def qu (o:Int):Bool:=decide (o=19∨o=20)
theorem quI (o w k a b c:Int):impl_isQuant.f o w k a b c=some (qu o):=by
 unfold impl_isQuant.f qu
 by_cases h:o=19
 ·rw [if_pos h]
  congr 1
  exact (decide_eq_true (Or.inl h)).symm
 ·rw [if_neg h]
  congr 1
  by_cases h2:o=20
  ·rw [decide_eq_true (Or.inr h2)]
   exact beq_iff_eq.2 h2
  ·rw [decide_eq_false (by omega)]
   exact beq_eq_false_iff_ne.2 h2
theorem quS (o:Int):spec_l02Quant.f o=some (qu o):=by
 unfold spec_l02Quant.f qu
 by_cases h:o=19
 ·rw [if_pos h]
  congr 1
  exact (decide_eq_true (Or.inl h)).symm
 ·rw [if_neg h]
  congr 1
  by_cases h2:o=20
  ·rw [decide_eq_true (Or.inr h2)]
   exact beq_iff_eq.2 h2
  ·rw [decide_eq_false (by omega)]
   exact beq_eq_false_iff_ne.2 h2
def parts (o a b c:Int):List Int:=if o=2∨o=17∨qu o=true then [a] else if 3≤o∧o≤16 then [a,b] else if o=18 then [a,b,c] else []
theorem partsI (k:Nat) (o w kk a b c:Int):impl_Parts.f (k + 1) o w kk a b c=some (parts o a b c):=by
 unfold impl_Parts.f parts
 by_cases h2:o=2
 ·rw [if_pos h2,if_pos (Or.inl h2)]
  simp only [impl_Parts.j0,if_true]
 rw [if_neg h2]
 by_cases h17:o=17
 ·rw [if_pos h17,if_pos (Or.inr (Or.inl h17))]
  simp only [impl_Parts.j0,if_true]
 rw [if_neg h17,quI]
 simp only [Option.bind_some]
 cases hq:qu o with
 | true =>
  rw [if_pos (Or.inr (Or.inr rfl))]
  simp only [impl_Parts.j0,if_true]
 | false =>
  rw [if_neg (by simp [h2,h17])]
  simp only [impl_Parts.j0,Bool.false_eq_true,if_false,apWithin,Option.bind_some]
  by_cases h3:3≤o∧o≤16
  ·rw [decide_eq_true h3,if_pos rfl,if_pos h3]
  ·rw [decide_eq_false h3,if_neg (by decide),if_neg h3]
   by_cases h18:o=18
   ·rw [if_pos h18,if_pos h18]
   ·rw [if_neg h18,if_neg h18]
theorem partsS (k:Nat) (o w kk a b c:Int):spec_Parts.f (k + 1) o w kk a b c=some (parts o a b c):=by
 unfold spec_Parts.f parts
 by_cases h2:o=2
 ·rw [if_pos h2,if_pos (Or.inl h2)]
  simp only [spec_Parts.j0,if_true]
 rw [if_neg h2]
 by_cases h17:o=17
 ·rw [if_pos h17,if_pos (Or.inr (Or.inl h17))]
  simp only [spec_Parts.j0,if_true]
 rw [if_neg h17]
 by_cases h19:o=19
 ·rw [if_pos h19,if_pos (Or.inr (Or.inr (show qu o=true from decide_eq_true (Or.inl h19))))]
  simp only [spec_Parts.j0,if_true]
 rw [if_neg h19]
 by_cases h20:o=20
 ·rw [if_pos (Or.inr (Or.inr (show qu o=true from decide_eq_true (Or.inr h20)))),beq_iff_eq.2 h20]
  simp only [spec_Parts.j0,if_true]
 have hq:qu o=false:=decide_eq_false (by omega)
 rw [beq_eq_false_iff_ne.2 h20,hq,if_neg (by simp [h2,h17])]
 simp only [spec_Parts.j0,Bool.false_eq_true,if_false,apIn,Option.bind_some]
 by_cases h3:3≤o∧o≤16
 ·rw [decide_eq_true h3,if_pos rfl,if_pos h3]
 ·rw [decide_eq_false h3,if_neg (by decide),if_neg h3]
  by_cases h18:o=18
  ·rw [if_pos h18,if_pos h18]
  ·rw [if_neg h18,if_neg h18]
def np (x:S99):List Int:=parts x.f0 x.f3 x.f4 x.f5
theorem np_length (x:S99):(np x).length≤3:=by
 unfold np parts
 repeat' split
 all_goals simp
def usesF (o kk a b c:Int):Bool:=if o=0∨o=1 then a == 0 && (b == 0 && c == 0) else if o=17 then b == 0 && c == 0 else if qu o=true then c == 0 else if o=2 then kk == 0 && (b == 0 && c == 0) else if 3≤o∧o≤16 then kk == 0 && c == 0 else if o=18 then kk == 0 else kk == 0 && (a == 0 && (b == 0 && c == 0))
theorem usesI (k:Nat) (o w kk a b c:Int):impl_usesOnly.f (k + 1) o w kk a b c=some (usesF o kk a b c):=by
 unfold impl_usesOnly.f
 rw [partsI]
 simp only [Option.bind_some]
 by_cases h0:o=0
 ·rw [if_pos h0]
  simp only [impl_usesOnly.j0,if_true,usesF,if_pos (show o=0∨o=1 from Or.inl h0),beq_self_eq_true,Bool.true_and]
 rw [if_neg h0]
 by_cases h1:o=1
 ·rw [beq_iff_eq.2 h1]
  simp only [impl_usesOnly.j0,if_true,usesF,if_pos (show o=0∨o=1 from Or.inr h1),beq_self_eq_true,Bool.true_and]
 rw [beq_eq_false_iff_ne.2 h1]
 simp only [impl_usesOnly.j0,Bool.false_eq_true,if_false,usesF,if_neg (show ¬ (o=0∨o=1) by omega),beq_self_eq_true,Bool.true_and,quI,Option.bind_some]
 by_cases h17:o=17
 ·simp only [if_pos h17]
 simp only [if_neg h17]
 cases hq:qu o with
 | true=>simp only [if_true]
 | false =>
  simp only [Bool.false_eq_true,if_false,parts,hq,h17,or_false,false_or]
  by_cases h2:o=2
  ·simp [h2]
  ·simp only [h2,if_false]
   by_cases h3:3≤o∧o≤16
   ·simp [h3]
   ·simp only [if_neg h3]
    by_cases h18:o=18
    ·simp [h18]
    ·simp [h18]
def pOk (n:Int) (ps:List Int):Bool:=ps.all fun p=>decide (0≤p∧p≤n - 1)
def w3 (l:List S99) (ps:List Int) (q:Nat):Int:=if q < ps.length then (rd_T99 l (rd ps (q:Int))).f1 else 0
def opF (o w kk b x0 x1 x2:Int):Bool :=
 if o=0 then apOk w.toNat kk else if o=1 then decide (0≤kk∧kk≤7) else if o=2 then x0 == w else if 3≤o∧o≤12 then x0 == w && x1 == w else if 13≤o∧o≤15 then x0 == x1 && w == 1 else
 if o=16 then wrap64 (x0 + x1) == w else if o=17 then decide (0≤kk∧kk≤wrap64 (x0 - w)) else if o=18 then x0 == 1 && (x1 == w && x2 == w) else decide (0≤kk∧kk≤7) && (decide (1≤b∧b≤8) && (x0 == 1 && w == 1))
theorem ifB (x y z:Int) (t:Bool):(if x=y then t else false)=(x == y && t):=by
 by_cases h:x=y
 ·rw [if_pos h,beq_iff_eq.2 h,Bool.true_and]
 ·rw [if_neg h,beq_eq_false_iff_ne.2 h,Bool.false_and]
theorem opI (o w kk b x0 x1 x2:Int) (h1:1≤w) (h8:w≤8):rgS o w kk b x0 x1 x2=some (opF o w kk b x0 x1 x2):=by
 obtain ⟨n,rfl⟩:=Int.eq_ofNat_of_zero_le (show 0≤w by omega)
 unfold rgS opF
 simp only [impl_isVar.f,impl_isWidth.f,apWithin,Option.bind_some,Int.toNat_natCast,apWordI n (by omega) (by omega),ifB _ _ 0]
 by_cases h0:o=0
 ·simp only [if_pos h0]
 simp only [if_neg h0]
 by_cases h1:o=1
 ·simp only [if_pos h1]
 simp only [if_neg h1]
 by_cases h2:o=2
 ·simp only [if_pos h2]
 simp only [if_neg h2]
 by_cases h3:3≤o∧o≤12
 ·simp only [decide_eq_true h3,if_true,if_pos h3]
 simp only [decide_eq_false h3,Bool.false_eq_true,if_false,if_neg h3]
 by_cases h4:13≤o∧o≤15
 ·simp only [decide_eq_true h4,if_true,if_pos h4]
 simp only [decide_eq_false h4,Bool.false_eq_true,if_false,if_neg h4]
 by_cases h5:o=16
 ·simp only [if_pos h5]
 simp only [if_neg h5]
 by_cases h6:o=17
 ·simp only [if_pos h6]
 simp only [if_neg h6]
 by_cases h7:o=18
 ·simp only [if_pos h7]
 simp only [if_neg h7]
 cases decide (0≤kk∧kk≤7) <;> cases decide (1≤b∧b≤8) <;> simp
theorem rgW_eq (k:Nat) (l:List S99) (hl:l.length≤1048576) (o a b c:Int):rgW (k + 4) l (parts o a b c) 0 0 0 0=some (if pOk (l.length:Int) (parts o a b c)=true then some (w3 l (parts o a b c) 0,w3 l (parts o a b c) 1,w3 l (parts o a b c) 2) else none):=by
 have hw:wrap64 ((l.length:Int) - 1)=(l.length:Int) - 1:=w64 (by omega) (by omega)
 have h01:wrap64 1=1:=by unfold wrap64;omega
 have h12:wrap64 2=2:=by unfold wrap64;omega
 have h23:wrap64 3=3:=by unfold wrap64;omega
 have key:∀ p:Int,(0≤p∧p≤(l.length:Int) - 1)→(0≤p∧p < (l.length:Int)):=fun p h=>by omega
 have len:parts o a b c=[]∨parts o a b c=[a]∨parts o a b c=[a,b]∨parts o a b c=[a,b,c]:=by
  unfold parts
  repeat' split
  all_goals simp
 rcases len with e|e|e|e <;> rw [e]
 ·simp [rgW,pOk,w3]
 ·by_cases h1:0≤a∧a≤(l.length:Int) - 1
  ·simp [rgW,pOk,w3,apWithin,rd,hw,h01,h1,key a h1]
  ·simp [rgW,pOk,w3,apWithin,rd,hw,h01,h1]
 ·by_cases h1:0≤a∧a≤(l.length:Int) - 1
  ·by_cases h2:0≤b∧b≤(l.length:Int) - 1
   ·simp [rgW,pOk,w3,apWithin,rd,hw,h01,h12,h1,h2,key a h1,key b h2]
   ·simp [rgW,pOk,w3,apWithin,rd,hw,h01,h12,h1,h2,key a h1]
  ·simp [rgW,pOk,w3,apWithin,rd,hw,h01,h1]
 ·by_cases h1:0≤a∧a≤(l.length:Int) - 1
  ·by_cases h2:0≤b∧b≤(l.length:Int) - 1
   ·by_cases h3:0≤c∧c≤(l.length:Int) - 1
    ·simp [rgW,pOk,w3,apWithin,rd,hw,h01,h12,h23,h1,h2,h3,key a h1,key b h2,key c h3]
    ·simp [rgW,pOk,w3,apWithin,rd,hw,h01,h12,h23,h1,h2,h3,key a h1,key b h2]
   ·simp [rgW,pOk,w3,apWithin,rd,hw,h01,h12,h1,h2,key a h1]
  ·simp [rgW,pOk,w3,apWithin,rd,hw,h01,h1]
def ndF (l:List S99) (x:S99):Bool:=decide (1≤x.f1∧x.f1≤8) && (decide (0≤x.f0∧x.f0≤20) && (usesF x.f0 x.f2 x.f3 x.f4 x.f5 && (pOk (l.length:Int) (np x) && opF x.f0 x.f1 x.f2 x.f4 (w3 l (np x) 0) (w3 l (np x) 1) (w3 l (np x) 2))))
theorem rightI (k:Nat) (l:List S99) (hl:l.length≤1048576) (x:S99):impl_isRight.f (k + 4) l x.f0 x.f1 x.f2 x.f3 x.f4 x.f5=some (ndF l x):=by
 unfold impl_isRight.f ndF
 simp only [impl_isWidth.f,apWithin,Option.bind_some]
 by_cases h1:1≤x.f1∧x.f1≤8
 ·rw [decide_eq_true h1,if_pos rfl,Bool.true_and]
  cases decide (0≤x.f0∧x.f0≤20) with
  | false=>rw [if_neg (by decide),Bool.false_and]
  | true =>
   rw [if_pos rfl,Bool.true_and,usesI (k + 3)]
   simp only [Option.bind_some]
   cases usesF x.f0 x.f2 x.f3 x.f4 x.f5 with
   | false=>rw [if_neg (by decide),Bool.false_and]
   | true =>
    rw [if_pos rfl,Bool.true_and,partsI (k + 3)]
    simp only [Option.bind_some]
    rw [rgW_eq k l hl]
    unfold np
    cases pOk (l.length:Int) (parts x.f0 x.f3 x.f4 x.f5) with
    | false =>
     simp
    | true =>
     simp only [if_true,Option.bind_some,Bool.true_and]
     exact opI _ _ _ _ _ _ _ h1.1 h1.2
 ·rw [decide_eq_false h1,if_neg (by decide),Bool.false_and]
theorem ifS (x y:Int) (t:Bool):(if x=y then some t else some false)=some (x == y && t):=by
 by_cases h:x=y
 ·rw [if_pos h,beq_iff_eq.2 h,Bool.true_and]
 ·rw [if_neg h,beq_eq_false_iff_ne.2 h,Bool.false_and]
theorem ifT (s t:Bool):(if s=true then some t else some false)=some (s && t):=by cases s <;> rfl
theorem ifG (x y:Int) (t:Bool):(if x ≥ y then some t else some false)=some (decide (y≤x) && t):=by
 by_cases h:y≤x
 ·rw [if_pos h,decide_eq_true h,Bool.true_and]
 ·rw [if_neg h,decide_eq_false h,Bool.false_and]
theorem ifL (x y:Int) (t:Bool):(if x≤y then some t else some false)=some (decide (x≤y) && t):=by
 by_cases h:x≤y
 ·rw [if_pos h,decide_eq_true h,Bool.true_and]
 ·rw [if_neg h,decide_eq_false h,Bool.false_and]
theorem decB (x y z:Int):decide (x≤y∧y≤z)=(decide (x≤y) && decide (y≤z)):=by
 rw [Bool.decide_and]
theorem len2 {α:Type} {l:List α} (h:l.length=2):∃ x y,l=[x,y]:=by
 match l,h with
 | [x,y],_=>exact ⟨x,y,rfl⟩
theorem len3 {α:Type} {l:List α} (h:l.length=3):∃ x y z,l=[x,y,z]:=by
 match l,h with
 | [x,y,z],_=>exact ⟨x,y,z,rfl⟩
theorem l1E (l:List S99) (o w kk a b c:Int) (h1:1≤w) (h8:w≤8) (ws:List Int) (hws:ws.length=(parts o a b c).length) :
  Ev (fun k=>spec_l02Node.l1 k l (parts o a b c) ws (ws.length:Int) o w kk a b c) (decide (0≤o∧o≤20) && (usesF o kk a b c && opF o w kk b (ws.getD 0 0) (ws.getD 1 0) (ws.getD 2 0))):=by
 obtain ⟨n,rfl⟩:=Int.eq_ofNat_of_zero_le (show 0≤w by omega)
 refine ev_succ ?_
 simp only [spec_l02Node.l1,if_neg (show ¬ (ws.length:Int) < ((parts o a b c).length:Int) by omega),apIn,Option.bind_some,ifS,ifT,ifG,ifL]
 by_cases h0:o=0
 ·subst h0
  simp only [if_true]
  refine ev_bind (a:=apOk n kk) (f:=fun _ t117=>some (t117 && (a == 0 && (b == 0 && c == 0)))) (apWordS n (by omega) (by omega) kk) ?_
  simp only [usesF,opF,if_true,true_or,Int.toNat_natCast]
  rw [show (apOk n kk && (a == 0 && (b == 0 && c == 0)))=(decide ((0:Int)≤0∧(0:Int)≤20) && (a == 0 && (b == 0 && c == 0) && apOk n kk)) from by rw [Bool.and_comm];rfl]
  exact ev_some _
 simp only [if_neg h0]
 by_cases hr:0≤o∧o≤18
 case neg =>
  simp only [if_neg (show ¬ o=1 by omega),if_neg (show ¬ o=2 by omega),decide_eq_false (show ¬ (3≤o∧o≤12) by omega),decide_eq_false (show ¬ (13≤o∧o≤15) by omega),Bool.false_eq_true,if_false,if_neg (show ¬ o=16 by omega),if_neg (show ¬ o=17 by omega),if_neg (show ¬ o=18 by omega)]
  by_cases hq:o=19∨o=20
  ·have hp:parts o a b c=[a]:=by
    unfold parts qu
    rw [if_pos (by simp;omega)]
   obtain ⟨x,rfl⟩:=List.length_eq_one_iff.1 (hws.trans (by rw [hp];rfl))
   have hu:usesF o kk a b c=(c == 0):=by
    unfold usesF qu
    rw [if_neg (by omega),if_neg (by omega),if_pos (by simpa using hq)]
   have ho:opF o (n:Int) kk b x 0 0=(decide (0≤kk∧kk≤7) && (decide (1≤b∧b≤8) && (x == 1 && (n:Int) == 1))):=by
    unfold opF
    rw [if_neg (by omega),if_neg (by omega),if_neg (by omega),if_neg (by omega),if_neg (by omega),if_neg (by omega),if_neg (by omega),if_neg (by omega)]
   have main:Ev (fun k=>spec_l02Node.j2 k [x] true o (n:Int) kk a b c) (decide (0≤o∧o≤20) && (usesF o kk a b c && opF o (n:Int) kk b ([x].getD 0 0) ([x].getD 1 0) ([x].getD 2 0))):=by
    refine ev_succ ?_
    simp only [spec_l02Node.j2,if_true,apIn,Option.bind_some,ifS,ifT]
    rw [hu,decide_eq_true (show 0≤o∧o≤20 by omega)]
    refine ev_eq (f:=fun _=>some (true && (c == 0 && (decide (0≤kk∧kk≤7) && (decide (1≤b∧b≤8) && (x == 1 && (n:Int) == 1)))))) (fun k=>?_) (by show Ev _ (true && (c == 0 && opF o (n:Int) kk b x 0 0));rw [ho];exact ev_some _)
    generalize decide (0≤kk∧kk≤7)=p
    generalize decide (1≤b∧b≤8)=p2
    cases p <;> cases p2 <;> simp [rd,ifS,Bool.and_comm,Bool.and_left_comm]
   rcases hq with hq|hq
   ·simp only [if_pos hq]
    exact main
   ·simp only [if_neg (show ¬ o=19 by omega),beq_iff_eq.2 hq]
    exact main
  ·simp only [if_neg (show ¬ o=19 by omega),beq_eq_false_iff_ne.2 (show o≠20 by omega)]
   rw [decide_eq_false (show ¬ (0≤o∧o≤20) by omega),Bool.false_and]
   exact ev_succ (by simp only [spec_l02Node.j2,Bool.false_eq_true,if_false];exact ev_some _)
 refine ev_eq (f:=fun _=>some (decide (0≤o∧o≤20) && (usesF o kk a b c && opF o (n:Int) kk b (ws.getD 0 0) (ws.getD 1 0) (ws.getD 2 0)))) (fun k=>?_) (ev_some _)
 by_cases h1:o=1
 ·subst h1
  simp [usesF,opF,Bool.and_comm,Bool.and_left_comm,decB]
 by_cases h2:o=2
 ·subst h2
  obtain ⟨x,rfl⟩:=List.length_eq_one_iff.1 (hws.trans (by simp [parts]))
  simp [usesF,opF,qu,rd,Bool.and_comm,Bool.and_left_comm]
 by_cases h3:3≤o∧o≤16
 ·have hp:parts o a b c=[a,b]:=by
   unfold parts qu
   rw [if_neg (by simp;omega),if_pos h3]
  obtain ⟨x,y,rfl⟩:=len2 (hws.trans (by rw [hp];rfl))
  have hu:usesF o kk a b c=(kk == 0 && c == 0):=by
   unfold usesF qu
   rw [if_neg (by omega),if_neg (by omega),if_neg (by simp;omega),if_neg (by omega),if_pos h3]
  rw [hu,decide_eq_true (show 0≤o∧o≤20 by omega)]
  by_cases h4:3≤o∧o≤12
  ·simp [h1,h2,h4,opF,h0,rd,ifS]
   cases x == (n:Int) <;> cases y == (n:Int) <;> cases kk == 0 <;> cases c == 0 <;> rfl
  ·by_cases h5:13≤o∧o≤15
   ·simp only [opF,if_neg h0,if_neg h1,if_neg h2,if_neg h4,if_pos h5,decide_eq_false h4,decide_eq_true h5,Bool.false_eq_true,if_false,if_true]
    simp [rd,Bool.and_comm,Bool.and_left_comm]
   ·obtain rfl:o=16:=by omega
    simp [opF,rd,Bool.and_comm,Bool.and_left_comm]
 have h4:¬ (3≤o∧o≤12):=by omega
 have h5:¬ (13≤o∧o≤15):=by omega
 have h16:¬ o=16:=by omega
 simp only [if_neg h1,if_neg h2,decide_eq_false h4,decide_eq_false h5,Bool.false_eq_true,if_false,if_neg h16]
 by_cases h17:o=17
 ·subst h17
  obtain ⟨x,rfl⟩:=List.length_eq_one_iff.1 (hws.trans (by simp [parts]))
  by_cases hk:0≤kk
  ·simp [usesF,opF,qu,rd,Bool.and_comm,Bool.and_left_comm,decB,hk]
  ·simp [usesF,opF,qu,rd,Bool.and_comm,Bool.and_left_comm,decB,hk]
 by_cases h18:o=18
 ·subst h18
  obtain ⟨x,y,z,rfl⟩:=len3 (hws.trans (by simp [parts,qu]))
  simp [usesF,opF,qu,rd,ifS]
  cases x == 1 <;> cases y == (n:Int) <;> cases z == (n:Int) <;> cases kk == 0 <;> rfl
 exact absurd hr (by omega)
theorem l1L (l:List S99) (ps:List Int) (hps:ps.length≤3) (hp:∀ p∈ps,0≤p∧p < (l.length:Int)) (o w kk a b c:Int) (r:Bool)
  (e:Ev (fun k=>spec_l02Node.l1 k l ps (ps.map fun p=>(rd_T99 l p).f1) (ps.length:Int) o w kk a b c) r):Ev (fun k=>spec_l02Node.l1 k l ps [] 0 o w kk a b c) r:=by
 have main:∀ j,j≤ps.length→Ev (fun k=>spec_l02Node.l1 k l ps ((ps.take j).map fun p=>(rd_T99 l p).f1) (j:Int) o w kk a b c) r:=by
  refine ev_loop (fun k j=>spec_l02Node.l1 k l ps ((ps.take j).map fun p=>(rd_T99 l p).f1) (j:Int) o w kk a b c) ps.length r (fun j hj h=>?_) (by simp only [List.take_length];exact e)
  have hr:rd ps (j:Int)=ps[j]:=by rw [rd_nat,getD_lt ps j _ hj]
  have hm:=hp _ (List.getElem_mem hj)
  refine ev_succ ?_
  simp only [spec_l02Node.l1,if_pos (show (j:Int) < (ps.length:Int) by omega),if_pos (show 0≤(j:Int) by omega),hr,if_pos hm.1,if_pos hm.2,w64s j (show j < 4611686018427387904 by omega),
   if_pos (show (((ps.take j).map fun p=>(rd_T99 l p).f1).length:Nat) < 17592186044416 by simp;omega)]
  rw [show ((ps.take j).map fun p=>(rd_T99 l p).f1) ++ [(rd_T99 l ps[j]).f1]=((ps.take (j + 1)).map fun p=>(rd_T99 l p).f1) from by rw [List.take_succ_eq_append_getElem hj,List.map_append];rfl]
  exact h
 exact main 0 (by omega)
theorem l0L (l:List S99) (i:Nat) (hi:i≤1048576) (ps:List Int) (hps:ps.length≤3) (o w kk a b c:Int) (T:Bool)
  (hT:pOk (i:Int) ps=true→Ev (fun k=>(spec_l01In.f w 1 8).bind fun t108=>(if t108=true then (spec_l02Node.l1 k l ps (([]:List Int)) 0 o w kk a b c) else (some false))) T) :
  Ev (fun k=>spec_l02Node.l0 k l (i:Int) ps 0 o w kk a b c) (pOk (i:Int) ps && T):=by
 have hw:wrap64 ((i:Int) - 1)=(i:Int) - 1:=w64 (by omega) (by omega)
 have main:∀ d j,j + d=ps.length→(∀ q (hq:q < ps.length),q < j→0≤ps[q]∧ps[q]≤(i:Int) - 1)→Ev (fun k=>spec_l02Node.l0 k l (i:Int) ps (j:Int) o w kk a b c) (pOk (i:Int) ps && T):=by
  intro d
  induction d with
  | zero =>
   intro j hj hok
   have hall:pOk (i:Int) ps=true:=by
    unfold pOk
    rw [List.all_eq_true]
    intro p hp
    obtain ⟨q,hq,rfl⟩:=List.getElem_of_mem hp
    exact decide_eq_true (hok q hq (by omega))
   refine ev_succ ?_
   simp only [spec_l02Node.l0,if_neg (show ¬ (j:Int) < (ps.length:Int) by omega)]
   rw [hall,Bool.true_and]
   exact hT hall
  | succ d ih =>
   intro j hj hok
   have hj2:j < ps.length:=by omega
   have hr:rd ps (j:Int)=ps[j]:=by rw [rd_nat,getD_lt ps j _ hj2]
   refine ev_succ ?_
   simp only [spec_l02Node.l0,if_pos (show (j:Int) < (ps.length:Int) by omega),if_pos (show 0≤(j:Int) by omega),hr,hw,apIn,Option.bind_some,w64s j (show j < 4611686018427387904 by omega)]
   by_cases hc:0≤ps[j]∧ps[j]≤(i:Int) - 1
   ·simp only [decide_eq_true hc,if_true]
    refine ih (j + 1) (by omega) (fun q hq hq2=>?_)
    rcases Nat.lt_succ_iff_lt_or_eq.1 hq2 with h|rfl
    ·exact hok q hq h
    ·exact hc
   ·simp only [decide_eq_false hc,Bool.false_eq_true,if_false]
    have hall:pOk (i:Int) ps=false:=by
     unfold pOk
     rw [List.all_eq_false]
     exact ⟨ps[j],List.getElem_mem hj2,by simpa using hc⟩
    rw [hall,Bool.false_and]
    exact ev_some _
 exact main ps.length 0 (by omega) (fun q _ hq=>by omega)
theorem nodeS (l:List S99) (i:Nat) (hi:i < l.length) (hl:l.length≤1048576):Ev (fun k=>spec_l02Node.f k l (i:Int)) (ndF (l.take i) (rd_T99 l (i:Int))):=by
 generalize hx:rd_T99 l (i:Int)=x
 have hlen:((l.take i).length:Int)=(i:Int):=by rw [List.length_take];omega
 have hn3:=np_length x
 have hrd:∀ p:Int,0≤p→p≤(i:Int) - 1→rd_T99 (l.take i) p=rd_T99 l p:=fun p h0 h1=>by
  unfold rd_T99
  rw [List.getD_eq_getElem?_getD,List.getD_eq_getElem?_getD,List.getElem?_take,if_pos (by omega)]
 have fin:ndF (l.take i) x=(pOk (i:Int) (np x) && (decide (1≤x.f1∧x.f1≤8) && (decide (0≤x.f0∧x.f0≤20) && (usesF x.f0 x.f2 x.f3 x.f4 x.f5 && opF x.f0 x.f1 x.f2 x.f4 (((np x).map fun p=>(rd_T99 l p).f1).getD 0 0) (((np x).map fun p=>(rd_T99 l p).f1).getD 1 0) (((np x).map fun p=>(rd_T99 l p).f1).getD 2 0))))):=by
  unfold ndF
  rw [hlen]
  cases hp:pOk (i:Int) (np x) with
  | false=>simp
  | true =>
   have hall:∀ p∈np x,0≤p∧p≤(i:Int) - 1:=fun p hm=>by
    unfold pOk at hp
    rw [List.all_eq_true] at hp
    exact of_decide_eq_true (hp p hm)
   have hw:∀ q:Nat,w3 (l.take i) (np x) q=((np x).map fun p=>(rd_T99 l p).f1).getD q 0:=fun q=>by
    unfold w3
    rw [List.getD_eq_getElem?_getD,List.getElem?_map]
    by_cases hq:q < (np x).length
    ·rw [if_pos hq,rd_nat,getD_lt (np x) q _ hq,List.getElem?_eq_getElem hq]
     have:=hall _ (List.getElem_mem hq)
     rw [hrd _ this.1 this.2]
     rfl
    ·rw [if_neg hq,List.getElem?_eq_none (by omega)]
     rfl
   rw [hw 0,hw 1,hw 2,Bool.true_and,Bool.true_and]
 rw [fin]
 refine ev_eq (f:=fun k=>(spec_Parts.f k x.f0 x.f1 x.f2 x.f3 x.f4 x.f5).bind fun t103=>(spec_l02Node.l0 k l (i:Int) t103 0 x.f0 x.f1 x.f2 x.f3 x.f4 x.f5)) (fun k=>?_) ?_
 ·unfold spec_l02Node.f
  rw [if_pos (by omega),if_pos (by omega),hx]
 ·refine ev_bind (a:=np x) (ev_step (f:=fun _=>some (np x)) (fun k=>partsS k _ _ _ _ _ _) (ev_some _)) ?_
  refine l0L l i (by omega) (np x) hn3 _ _ _ _ _ _ _ (fun hp=>?_)
  have hall:∀ p∈np x,0≤p∧p < (l.length:Int):=fun p hm=>by
   unfold pOk at hp
   rw [List.all_eq_true] at hp
   have:=of_decide_eq_true (hp p hm)
   omega
  simp only [apIn,Option.bind_some]
  by_cases hW:1≤x.f1∧x.f1≤8
  ·simp only [decide_eq_true hW,if_true,Bool.true_and]
   refine l1L l (np x) hn3 hall _ _ _ _ _ _ _ ?_
   have h:=l1E l x.f0 x.f1 x.f2 x.f3 x.f4 x.f5 hW.1 hW.2 ((np x).map fun p=>(rd_T99 l p).f1) (by rw [List.length_map];rfl)
   rw [List.length_map] at h
   exact h
  ·simp only [decide_eq_false hW,Bool.false_eq_true,if_false,Bool.false_and]
   exact ev_some _
def tmA (l:List S99):Nat→Nat→Bool
 | 0,_=>true
 | d + 1,i=>ndF (l.take i) (rd_T99 l (i:Int)) && tmA l d (i + 1)
def tmF (l:List S99):Bool:=decide (1≤(l.length:Int)∧(l.length:Int)≤80) && tmA l l.length 0
theorem tmA_at (l:List S99):∀ d i,tmA l d i=true→∀ j,i≤j→j < i + d→ndF (l.take j) (rd_T99 l (j:Int))=true:=by
 intro d
 induction d with
 | zero=>intro i _ j h1 h2;omega
 | succ d ih =>
  intro i h j h1 h2
  simp only [tmA,Bool.and_eq_true] at h
  rcases Nat.lt_or_ge i j with h3|h3
  ·exact ih (i + 1) h.2 j (by omega) (by omega)
  ·obtain rfl:j=i:=by omega
   exact h.1
theorem termI (l:List S99) (hl:l.length≤1048576):Ev (fun k=>impl_TermOk.f k l) (tmF l):=by
 unfold impl_TermOk.f tmF
 simp only [apWithin,Option.bind_some]
 by_cases h:1≤(l.length:Int)∧(l.length:Int)≤80
 ·simp only [decide_eq_true h,if_true,Bool.true_and]
  have main:∀ d i,i + d=l.length→Ev (fun k=>impl_TermOk.l0 k l l (l.length:Int) (i:Int)) (tmA l d i):=by
   intro d
   induction d with
   | zero =>
    intro i hi
    refine ev_succ ?_
    simp only [impl_TermOk.l0,if_neg (show ¬ (i:Int) < (l.length:Int) by omega)]
    exact ev_some _
   | succ d ih =>
    intro i hi
    refine ev_succ ?_
    simp only [impl_TermOk.l0,if_pos (show (i:Int) < (l.length:Int) by omega),if_pos (show 0≤(i:Int) by omega),if_pos (show (i:Int)≤(l.length:Int) by omega),Int.toNat_natCast,w64s i (show i < 4611686018427387904 by omega)]
    refine ev_bind (a:=ndF (l.take i) (rd_T99 l (i:Int))) (f:=fun k t108=>if t108=true then (impl_TermOk.l0 k l l (l.length:Int) ((i + 1:Nat):Int)) else (some false)) ⟨4,fun k hk=>?_⟩ ?_
    ·obtain ⟨m,rfl⟩:∃ m,k=m + 4:=⟨k - 4,by omega⟩
     exact rightI m (l.take i) (by rw [List.length_take];omega) _
    ·unfold tmA
     cases ndF (l.take i) (rd_T99 l (i:Int)) with
     | false=>exact ev_some _
     | true =>
      simp only [if_true,Bool.true_and]
      exact ih (i + 1) (by omega)
  exact main l.length 0 (by omega)
 ·simp only [decide_eq_false h,Bool.false_eq_true,if_false,Bool.false_and]
  exact ev_some _
theorem termS (l:List S99) (hl:l.length≤1048576):Ev (fun k=>spec_TermOk.f k l) (tmF l):=by
 unfold spec_TermOk.f tmF
 simp only [apIn,Option.bind_some]
 by_cases h:1≤(l.length:Int)∧(l.length:Int)≤80
 ·simp only [decide_eq_true h,if_true,Bool.true_and]
  have main:∀ d i,i + d=l.length→Ev (fun k=>spec_TermOk.l0 k l (i:Int)) (tmA l d i):=by
   intro d
   induction d with
   | zero =>
    intro i hi
    refine ev_succ ?_
    simp only [spec_TermOk.l0,if_neg (show ¬ (i:Int) < (l.length:Int) by omega)]
    exact ev_some _
   | succ d ih =>
    intro i hi
    refine ev_succ ?_
    simp only [spec_TermOk.l0,if_pos (show (i:Int) < (l.length:Int) by omega),w64s i (show i < 4611686018427387904 by omega)]
    refine ev_bind (a:=ndF (l.take i) (rd_T99 l (i:Int))) (f:=fun k t108=>if t108=true then (spec_TermOk.l0 k l ((i + 1:Nat):Int)) else (some false)) (nodeS l i (by omega) hl) ?_
    unfold tmA
    cases ndF (l.take i) (rd_T99 l (i:Int)) with
    | false=>exact ev_some _
    | true =>
     simp only [if_true,Bool.true_and]
     exact ih (i + 1) (by omega)
  exact main l.length 0 (by omega)
 ·simp only [decide_eq_false h,Bool.false_eq_true,if_false,Bool.false_and]
  exact ev_some _
theorem tm_parts (l:List S99) (h:tmF l=true) (i:Nat) (hi:i < l.length):∀ p∈np (rd_T99 l (i:Int)),0≤p∧p≤(i:Int) - 1:=by
 unfold tmF at h
 rw [Bool.and_eq_true] at h
 have h1:=tmA_at l l.length 0 h.2 i (by omega) (by omega)
 unfold ndF at h1
 simp only [Bool.and_eq_true] at h1
 have h2:=h1.2.2.2.1
 unfold pOk at h2
 rw [List.all_eq_true] at h2
 intro p hp
 have:=of_decide_eq_true (h2 p hp)
 rw [List.length_take] at this
 omega
def mkF (ms:List Bool) (ps:List Int):List Bool:=ps.foldl (fun m p=>m.set p.toNat true) ms
theorem mkF_length (ps:List Int):∀ ms:List Bool,(mkF ms ps).length=ms.length:=by
 induction ps with
 | nil=>intro ms;rfl
 | cons p ps ih =>
  intro ms
  show (mkF (ms.set p.toNat true) ps).length=_
  rw [ih,List.length_set]
def reF (l:List S99):Nat→List Bool→List Bool
 | 0,ms=>ms
 | j + 1,ms=>reF l j (if rdOf false ms (j:Int)=true then mkF ms (np (rd_T99 l (j:Int))) else ms)
theorem rdOf_nat' (ms:List Bool) (j:Nat):rdOf false ms (j:Int)=ms.getD j false:=by unfold rdOf;simp
theorem mk_keep (ms:List Bool) (j:Nat) (q:Nat) (h:ms.getD j false=true):(ms.set q true).getD j false=true:=by
 rw [List.getD_eq_getElem?_getD] at h ⊢
 rw [List.getElem?_set]
 by_cases e:q=j
 ·subst e
  rw [if_pos rfl]
  by_cases hq:q < ms.length
  ·rw [if_pos hq];rfl
  ·rw [List.getElem?_eq_none (by omega)] at h
   simp at h
 ·rw [if_neg e]
  exact h
theorem reach2 (l:List S99) (i:Nat) (ps:List Int) (hp3:ps.length≤3) (r:List Bool) (n:Nat) (hi:i < n) (hn:n≤1048576) (hp:∀ p∈ps,0≤p∧p < (n:Int)) (ms:List Bool) (hm:ms.length=n)
  (e:Ev (fun k=>spec_l02Reach.l1 k l (if rdOf false ms (i:Int)=true then mkF ms ps else ms) ((i:Int) - 1)) r):Ev (fun k=>spec_l02Reach.l2 k l ms (i:Int) ps 0) r:=by
 have hw:wrap64 ((i:Int) - 1)=(i:Int) - 1:=w64 (by omega) (by omega)
 by_cases hc:rdOf false ms (i:Int)=true
 ·rw [if_pos hc] at e
  have main:∀ d j,j + d=ps.length→∀ m:List Bool,m.length=n→rdOf false m (i:Int)=true→mkF m (ps.drop j)=mkF ms ps→Ev (fun k=>spec_l02Reach.l2 k l m (i:Int) ps (j:Int)) r:=by
   intro d
   induction d with
   | zero =>
    intro j hj m hm hr he
    rw [List.drop_of_length_le (by omega)] at he
    refine ev_succ ?_
    simp only [spec_l02Reach.l2,if_neg (show ¬ (j:Int) < (ps.length:Int) by omega)]
    rw [show m=mkF ms ps from he,hw]
    exact e
   | succ d ih =>
    intro j hj m hm hr he
    have hj2:j < ps.length:=by omega
    have hq:rd ps (j:Int)=ps[j]:=by rw [rd_nat,getD_lt ps j _ hj2]
    have hpj:=hp _ (List.getElem_mem hj2)
    refine ev_succ ?_
    simp only [spec_l02Reach.l2,if_pos (show (j:Int) < (ps.length:Int) by omega),if_pos (show 0≤(i:Int) by omega),if_pos (show (i:Int) < (m.length:Int) by omega),hr,if_true,if_pos (show 0≤(j:Int) by omega),hq,if_pos hpj.1,if_pos (show ps[j] < (m.length:Int) by omega),w64s j (show j < 4611686018427387904 by omega)]
    refine ih (j + 1) (by omega) _ (by rw [List.length_set];exact hm) ?_ ?_
    ·rw [rdOf_nat'] at hr ⊢
     exact mk_keep m i _ hr
    ·rw [← he,List.drop_eq_getElem_cons hj2]
     rfl
  exact main ps.length 0 (by omega) ms hm hc (by rw [List.drop_zero])
 ·rw [if_neg hc] at e
  refine ev_succ ?_
  by_cases hl:(0:Int) < (ps.length:Int)
  ·simp only [spec_l02Reach.l2,if_pos hl,if_pos (show 0≤(i:Int) by omega),if_pos (show (i:Int) < (ms.length:Int) by omega),if_neg hc]
   rw [hw]
   exact e
  ·simp only [spec_l02Reach.l2,if_neg hl]
   rw [hw]
   exact e
theorem reach1 (l:List S99) (hT:tmF l=true) (hn:l.length≤1048576):∀ j,j≤l.length→∀ ms:List Bool,ms.length=l.length→Ev (fun k=>spec_l02Reach.l1 k l ms ((j:Int) - 1)) (reF l j ms):=by
 intro j
 induction j with
 | zero =>
  intro _ ms _
  refine ev_succ ?_
  simp only [spec_l02Reach.l1,if_neg (show ¬ (((0:Nat):Int) - 1 ≥ 0) by omega)]
  exact ev_some _
 | succ j ih =>
  intro hj ms hm
  rw [show ((j + 1:Nat):Int) - 1=(j:Int) from by omega]
  refine ev_succ ?_
  simp only [spec_l02Reach.l1,if_pos (show (j:Int) ≥ 0 by omega),if_pos (show 0≤(j:Int) by omega),if_pos (show (j:Int) < (l.length:Int) by omega)]
  refine ev_bind (a:=np (rd_T99 l (j:Int))) (f:=fun k t108=>spec_l02Reach.l2 k l ms (j:Int) t108 0) (ev_step (f:=fun _=>some (np (rd_T99 l (j:Int)))) (fun k=>partsS k _ _ _ _ _ _) (ev_some _)) ?_
  refine reach2 l j _ (np_length _) _ l.length (by omega) hn (fun p hp=>by have:=tm_parts l hT j (by omega) p hp;omega) ms hm ?_
  exact ih (by omega) _ (by split <;> simp [mkF_length,hm])
def ms0 (n:Nat):List Bool:=(List.replicate n false).set (n - 1) true
theorem ms0_length (n:Nat):(ms0 n).length=n:=by simp [ms0]
theorem reachS (l:List S99) (hT:tmF l=true) (hn:l.length≤1048576):Ev (fun k=>spec_l02Reach.f k l) (reF l l.length (ms0 l.length)):=by
 have hw:wrap64 ((l.length:Int) - 1)=(l.length:Int) - 1:=w64 (by omega) (by omega)
 have main:∀ j,j≤l.length→Ev (fun k=>spec_l02Reach.l0 k l ((ms0 l.length).take j) (j:Int)) (reF l l.length (ms0 l.length)):=by
  refine ev_loop (fun k j=>spec_l02Reach.l0 k l ((ms0 l.length).take j) (j:Int)) l.length _ (fun j hj h=>?_) ?_
  ·refine ev_succ ?_
   simp only [spec_l02Reach.l0,if_pos (show (j:Int) < (l.length:Int) by omega),if_pos (show ((ms0 l.length).take j).length < 140737488355328 by simp;omega),w64s j (show j < 4611686018427387904 by omega),hw]
   rw [show (ms0 l.length).take j ++ [((j:Int) == (l.length:Int) - 1)]=(ms0 l.length).take (j + 1) from by
    rw [List.take_succ_eq_append_getElem (by rw [ms0_length];exact hj)]
    congr 2
    simp only [ms0,List.getElem_set,List.getElem_replicate]
    by_cases e:l.length - 1=j
    ·rw [if_pos e]
     exact beq_iff_eq.2 (by omega)
    ·rw [if_neg e]
     exact beq_eq_false_iff_ne.2 (by omega)]
   exact h
  ·refine ev_succ ?_
   simp only [spec_l02Reach.l0,if_neg (show ¬ (l.length:Int) < (l.length:Int) by omega),hw]
   rw [List.take_of_length_le (by rw [ms0_length];omega)]
   exact reach1 l hT hn l.length (by omega) _ (ms0_length _)
 exact main 0 (by omega)
theorem markI (l:List S99) (i:Nat) (ps:List Int) (hp3:ps.length≤3) (r:List Bool) (n:Nat) (hn:n≤1048576) (hi:i < n) (hp:∀ p∈ps,0≤p∧p < (n:Int)) (ms:List Bool) (hm:ms.length=n)
  (e:Ev (fun k=>impl_reach.l0 (fun _=>some true) k l (mkF ms ps) ((i:Int) - 1)) r):Ev (fun k=>impl_reach.l1 (fun _=>some true) k l ms (i:Int) ps (ps.length:Int) 0) r:=by
 have hw:wrap64 ((i:Int) - 1)=(i:Int) - 1:=w64 (by omega) (by omega)
 have main:∀ d j,j + d=ps.length→∀ m:List Bool,m.length=n→mkF m (ps.drop j)=mkF ms ps→Ev (fun k=>impl_reach.l1 (fun _=>some true) k l m (i:Int) ps (ps.length:Int) (j:Int)) r:=by
  intro d
  induction d with
  | zero =>
   intro j hj m hm he
   rw [List.drop_of_length_le (by omega)] at he
   refine ev_succ ?_
   simp only [impl_reach.l1,if_neg (show ¬ (j:Int) < (ps.length:Int) by omega)]
   rw [show m=mkF ms ps from he,hw]
   exact e
  | succ d ih =>
   intro j hj m hm he
   have hj2:j < ps.length:=by omega
   have hq:rd ps (j:Int)=ps[j]:=by rw [rd_nat,getD_lt ps j _ hj2]
   have hpj:=hp _ (List.getElem_mem hj2)
   refine ev_succ ?_
   simp only [impl_reach.l1,if_pos (show (j:Int) < (ps.length:Int) by omega),if_pos (show 0≤(j:Int) by omega),hq,if_pos hpj.1,if_pos (show ps[j] < (m.length:Int) by omega),w64s j (show j < 4611686018427387904 by omega)]
   refine ih (j + 1) (by omega) _ (by rw [List.length_set];exact hm) ?_
   rw [← he,List.drop_eq_getElem_cons hj2]
   rfl
 exact main ps.length 0 (by omega) ms hm (by rw [List.drop_zero])
theorem reach0I (l:List S99) (hT:tmF l=true) (hn:l.length≤1048576):∀ j,j≤l.length→∀ ms:List Bool,ms.length=l.length→Ev (fun k=>impl_reach.l0 (fun _=>some true) k l ms ((j:Int) - 1)) (reF l j ms):=by
 intro j
 induction j with
 | zero =>
  intro _ ms _
  refine ev_succ ?_
  simp only [impl_reach.l0,if_neg (show ¬ (((0:Nat):Int) - 1 ≥ 0) by omega)]
  exact ev_some _
 | succ j ih =>
  intro hj ms hm
  have hw:wrap64 ((j:Int) - 1)=(j:Int) - 1:=w64 (by omega) (by omega)
  rw [show ((j + 1:Nat):Int) - 1=(j:Int) from by omega]
  refine ev_succ ?_
  simp only [impl_reach.l0,if_pos (show (j:Int) ≥ 0 by omega),if_pos (show 0≤(j:Int) by omega),if_pos (show (j:Int) < (ms.length:Int) by omega),Option.bind_some,Bool.not_true,reF]
  by_cases hc:rdOf false ms (j:Int)=true
  ·simp only [if_pos hc]
   refine ev_succ ?_
   simp only [impl_reach.j1,Bool.false_eq_true,if_false,if_pos (show 0≤(j:Int) by omega),if_pos (show (j:Int) < (l.length:Int) by omega)]
   refine ev_bind (a:=np (rd_T99 l (j:Int))) (f:=fun k t108=>impl_reach.l1 (fun _=>some true) k l ms (j:Int) t108 (t108.length:Int) 0) (ev_step (f:=fun _=>some (np (rd_T99 l (j:Int)))) (fun k=>partsI k _ _ _ _ _ _) (ev_some _)) ?_
   exact markI l j _ (np_length _) _ l.length hn (by omega) (fun p hp=>by have:=tm_parts l hT j (by omega) p hp;omega) ms hm (ih (by omega) _ (by rw [mkF_length];exact hm))
  ·simp only [if_neg hc]
   refine ev_succ ?_
   simp only [impl_reach.j1,if_true,hw]
   exact ih (by omega) _ hm
theorem reachI (l:List S99) (hT:tmF l=true) (hn:l.length≤1048576):Ev (fun k=>impl_reached.f k l) (reF l l.length (ms0 l.length)):=by
 have h1:1≤l.length:=by
  unfold tmF at hT
  rw [Bool.and_eq_true] at hT
  have:=of_decide_eq_true hT.1
  omega
 have hw:wrap64 ((l.length:Int) - 1)=(l.length:Int) - 1:=w64 (by omega) (by omega)
 unfold impl_reached.f impl_reach.f
 simp only [hw,if_pos (show 0≤(l.length:Int) by omega),Int.toNat_natCast,if_pos (show l.length≤281474976710656 by omega),Option.bind_some,if_pos (show 0≤(l.length:Int) - 1 by omega),
  List.length_replicate,if_pos (show (l.length:Int) - 1 < (l.length:Int) by omega)]
 have h:=reach0I l hT hn l.length (by omega) (ms0 l.length) (ms0_length _)
 unfold ms0 at h ⊢
 rw [show ((l.length:Int) - 1).toNat=l.length - 1 from by omega]
 exact h
def swF (l:List S66):Nat→Nat→Int
 | 0,_=>0
 | d + 1,i=>(rd_T66 l (i:Int)).f2 + swF l d (i + 1)
theorem bits_ev (l:List S66) (hl:l.length≤1048576):∃ v:Int,0≤v∧Ev (fun k=>spec_l05Bits.f k l) v∧Ev (fun k=>impl_frontBits.f k l) (if v > 12 then -1 else v) ∧
  (v≤12→v=swF l l.length 0∧(l.length:Int)≤v∧∀ j,j < l.length→1≤(rd_T66 l (j:Int)).f2∧(rd_T66 l (j:Int)).f2≤8):=by
 have main:∀ d i,i + d=l.length→∀ s:Int,0≤s→s≤8 * (i:Int)→∃ v:Int,0≤v∧Ev (fun k=>spec_l05Bits.l0 k l s (i:Int)) v∧Ev (fun k=>impl_frontBits.l0 k (mn s 13) l (l.length:Int) (i:Int)) (if v > 12 then -1 else v) ∧
   (v≤12→v=s + swF l d i∧s + (d:Int)≤v∧∀ j,i≤j→j < l.length→1≤(rd_T66 l (j:Int)).f2∧(rd_T66 l (j:Int)).f2≤8):=by
  intro d
  induction d with
  | zero =>
   intro i hi s h0 h1
   refine ⟨s,h0,ev_succ ?_,ev_succ ?_,fun h=>⟨by simp [swF],by omega,fun j h2 h3=>by omega⟩⟩
   ·simp only [spec_l05Bits.l0,if_neg (show ¬ (i:Int) < (l.length:Int) by omega)]
    exact ev_some _
   ·simp only [impl_frontBits.l0,if_neg (show ¬ (i:Int) < (l.length:Int) by omega)]
    by_cases h:s > 12
    ·rw [if_pos h,if_pos (show mn s 13 > 12 by unfold mn;omega)]
     exact ev_some _
    ·rw [if_neg h,if_neg (show ¬ mn s 13 > 12 by unfold mn;omega),show mn s 13=s by unfold mn;omega]
     exact ev_some _
  | succ d ih =>
   intro i hi s h0 h1
   by_cases hw:1≤(rd_T66 l (i:Int)).f2∧(rd_T66 l (i:Int)).f2≤8
   ·obtain ⟨v,v0,e1,e2,e3⟩:=ih (i + 1) (by omega) (s + (rd_T66 l (i:Int)).f2) (by omega) (by push_cast;omega)
    refine ⟨v,v0,ev_succ ?_,ev_succ ?_,fun h=>⟨by have:=(e3 h).1;simp only [swF];omega,by have:=(e3 h).2.1;omega,fun j h2 h3=>?_⟩⟩
    ·simp only [spec_l05Bits.l0,if_pos (show (i:Int) < (l.length:Int) by omega),if_pos (show 0≤(i:Int) by omega),apIn,decide_eq_true hw,Option.bind_some,if_true,w64s i (show i < 4611686018427387904 by omega),
      w64 (show -9223372036854775808≤s + (rd_T66 l (i:Int)).f2 by omega) (show s + (rd_T66 l (i:Int)).f2≤9223372036854775807 by omega)]
     exact e1
    ·simp only [impl_frontBits.l0,if_pos (show (i:Int) < (l.length:Int) by omega),if_pos (show 0≤(i:Int) by omega),impl_isWidth.f,apWithin,decide_eq_true hw,Option.bind_some,if_true,w64s i (show i < 4611686018427387904 by omega),
      show mn (wrap64 (mn s 13 + (rd_T66 l (i:Int)).f2)) 13=mn (s + (rd_T66 l (i:Int)).f2) 13 from by unfold mn wrap64;omega]
     exact e2
    ·rcases Nat.lt_or_ge i j with h4|h4
     ·exact (e3 h).2.2 j (by omega) h3
     ·obtain rfl:j=i:=by omega
      exact hw
   ·refine ⟨13,by decide,ev_succ ?_,ev_succ ?_,fun h=>absurd h (by decide)⟩
    ·simp only [spec_l05Bits.l0,if_pos (show (i:Int) < (l.length:Int) by omega),if_pos (show 0≤(i:Int) by omega),apIn,decide_eq_false hw,Option.bind_some,Bool.false_eq_true,if_false]
     exact ev_some _
    ·simp only [impl_frontBits.l0,if_pos (show (i:Int) < (l.length:Int) by omega),if_pos (show 0≤(i:Int) by omega),impl_isWidth.f,apWithin,decide_eq_false hw,Option.bind_some,Bool.false_eq_true,if_false]
     rw [if_pos (by decide)]
     exact ev_some _
 obtain ⟨v,v0,e1,e2,e3⟩:=main l.length 0 (by omega) 0 (by omega) (by omega)
 exact ⟨v,v0,e1,e2,fun h=>⟨by have:=(e3 h).1;omega,by have:=(e3 h).2.1;omega,fun j hj=>(e3 h).2.2 j (by omega) hj⟩⟩
def fwF (q:List S66):Nat→Nat→List Int→Option (List Int)
 | 0,_,ws=>some ws
 | d + 1,i,ws=>if (0≤(rd_T66 q (i:Int)).f1∧(rd_T66 q (i:Int)).f1≤7)∧(1≤(rd_T66 q (i:Int)).f2∧(rd_T66 q (i:Int)).f2≤8)∧rd ws (rd_T66 q (i:Int)).f1=0 then fwF q d (i + 1) (ws.set (rd_T66 q (i:Int)).f1.toNat (rd_T66 q (i:Int)).f2) else none
def wsOk (ws:List Int):Prop:=ws.length=8∧∀ x∈ws,0≤x
theorem wsOk_set {ws:List Int} (h:wsOk ws) (j:Nat) (v:Int) (hv:0≤v):wsOk (ws.set j v):=by
 refine ⟨by rw [List.length_set];exact h.1,fun x hx=>?_⟩
 rcases List.mem_or_eq_of_mem_set hx with h1|rfl
 ·exact h.2 x h1
 ·exact hv
theorem wsOk_rd {ws:List Int} (h:wsOk ws) (j:Int):0≤rd ws j:=by
 unfold rd
 by_cases hj:j.toNat < ws.length
 ·rw [List.getD_eq_getElem?_getD,List.getElem?_eq_getElem hj]
  exact h.2 _ (List.getElem_mem hj)
 ·rw [List.getD_eq_getElem?_getD,List.getElem?_eq_none (by omega)]
  exact Int.le_refl _
theorem fwI (q:List S66) (hq:q.length≤1048576):∀ d i,i + d=q.length→∀ ws,wsOk ws→Ev (fun k=>foW k q (i:Int) ws) (fwF q d i ws):=by
 intro d
 induction d with
 | zero =>
  intro i hi ws hw
  refine ev_succ ?_
  simp only [foW,if_neg (show ¬ (i:Int) < (q.length:Int) by omega),fwF]
  exact ev_some _
 | succ d ih =>
  intro i hi ws hw
  refine ev_succ ?_
  simp only [foW,fwF,if_pos (show (i:Int) < (q.length:Int) by omega),if_pos (show 0≤(i:Int) by omega),impl_isVar.f,impl_isWidth.f,apWithin,Option.bind_some,w64s i (show i < 4611686018427387904 by omega)]
  by_cases h1:0≤(rd_T66 q (i:Int)).f1∧(rd_T66 q (i:Int)).f1≤7
  ·simp only [decide_eq_true h1,if_true]
   by_cases h2:1≤(rd_T66 q (i:Int)).f2∧(rd_T66 q (i:Int)).f2≤8
   ·simp only [decide_eq_true h2,if_true,if_pos (show 0≤(rd_T66 q (i:Int)).f1∧(rd_T66 q (i:Int)).f1 < 8 by omega)]
    by_cases h3:rd ws (rd_T66 q (i:Int)).f1=0
    ·simp only [if_neg (show ¬ 0 < rd ws (rd_T66 q (i:Int)).f1 by omega),if_pos (show (0≤(rd_T66 q (i:Int)).f1∧(rd_T66 q (i:Int)).f1≤7)∧(1≤(rd_T66 q (i:Int)).f2∧(rd_T66 q (i:Int)).f2≤8)∧rd ws (rd_T66 q (i:Int)).f1=0 from ⟨h1,h2,h3⟩)]
     exact ih (i + 1) (by omega) _ (wsOk_set hw _ _ (by omega))
    ·have:=wsOk_rd hw (rd_T66 q (i:Int)).f1
     rw [if_neg (fun h=>h3 h.2.2)]
     simp only [if_pos (show 0 < rd ws (rd_T66 q (i:Int)).f1 by omega)]
     exact ev_some _
   ·rw [if_neg (fun h=>h2 h.2.1)]
    simp only [decide_eq_false h2,Bool.false_eq_true,if_false]
    exact ev_some _
  ·rw [if_neg (fun h=>h1 h.1)]
   simp only [decide_eq_false h1,Bool.false_eq_true,if_false]
   exact ev_some _
def orF (x:Option (List Int)) (R:List Int→Bool):Bool:=match x with|none=>false|some ws=>R ws
theorem fwS (q:List S66) (l:List S99) (hq:q.length≤1048576) (R:List Int→Bool) (hR:∀ ws,wsOk ws→Ev (fun k=>(spec_l02Reach.f k l).bind fun t115=>(spec_FrontOk.l1 k l ws t115 0)) (R ws)) :
  ∀ d i,i + d=q.length→∀ ws,wsOk ws→Ev (fun k=>spec_FrontOk.l0 k q l ws (i:Int)) (orF (fwF q d i ws) R):=by
 intro d
 induction d with
 | zero =>
  intro i hi ws hw
  refine ev_succ ?_
  simp only [spec_FrontOk.l0,if_neg (show ¬ (i:Int) < (q.length:Int) by omega),fwF,orF]
  exact hR ws hw
 | succ d ih =>
  intro i hi ws hw
  refine ev_succ ?_
  simp only [spec_FrontOk.l0,fwF,if_pos (show (i:Int) < (q.length:Int) by omega),if_pos (show 0≤(i:Int) by omega),apIn,Option.bind_some,w64s i (show i < 4611686018427387904 by omega)]
  by_cases h1:0≤(rd_T66 q (i:Int)).f1∧(rd_T66 q (i:Int)).f1≤7
  ·simp only [decide_eq_true h1,if_true]
   by_cases h2:1≤(rd_T66 q (i:Int)).f2∧(rd_T66 q (i:Int)).f2≤8
   ·have h8:=hw.1
    simp only [decide_eq_true h2,if_true,if_pos h1.1,if_pos (show (rd_T66 q (i:Int)).f1 < (ws.length:Int) by omega)]
    by_cases h3:rd ws (rd_T66 q (i:Int)).f1=0
    ·simp only [if_pos h3,if_pos (show (0≤(rd_T66 q (i:Int)).f1∧(rd_T66 q (i:Int)).f1≤7)∧(1≤(rd_T66 q (i:Int)).f2∧(rd_T66 q (i:Int)).f2≤8)∧rd ws (rd_T66 q (i:Int)).f1=0 from ⟨h1,h2,h3⟩)]
     exact ih (i + 1) (by omega) _ (wsOk_set hw _ _ (by omega))
    ·rw [if_neg (fun h=>h3 h.2.2)]
     simp only [if_neg h3]
     exact ev_some _
   ·rw [if_neg (fun h=>h2 h.2.1)]
    simp only [decide_eq_false h2,Bool.false_eq_true,if_false]
    exact ev_some _
  ·rw [if_neg (fun h=>h1 h.1)]
   simp only [decide_eq_false h1,Bool.false_eq_true,if_false]
   exact ev_some _
theorem reF_length (l:List S99):∀ j (ms:List Bool),(reF l j ms).length=ms.length:=by
 intro j
 induction j with
 | zero=>intro ms;rfl
 | succ j ih =>
  intro ms
  unfold reF
  rw [ih]
  split
  ·exact mkF_length _ _
  ·rfl
theorem tm_var (l:List S99) (h:tmF l=true) (i:Nat) (hi:i < l.length) (ho:(rd_T99 l (i:Int)).f0=1):0≤(rd_T99 l (i:Int)).f2∧(rd_T99 l (i:Int)).f2≤7:=by
 unfold tmF at h
 rw [Bool.and_eq_true] at h
 have h1:=tmA_at l l.length 0 h.2 i (by omega) (by omega)
 unfold ndF at h1
 simp only [Bool.and_eq_true] at h1
 have h2:=h1.2.2.2.2
 unfold opF at h2
 rw [if_neg (by omega),if_pos ho] at h2
 exact of_decide_eq_true h2
def fnF (l:List S99) (ms:List Bool) (ws:List Int):Nat→Nat→Bool
 | 0,_=>true
 | d + 1,i => !qu (rd_T99 l (i:Int)).f0 && ((if rdOf false ms (i:Int)=true then (if (rd_T99 l (i:Int)).f0=1 then rd ws (rd_T99 l (i:Int)).f2 == (rd_T99 l (i:Int)).f1 else true) else true) && fnF l ms ws d (i + 1))
theorem fnI (l:List S99) (hT:tmF l=true) (hn:l.length≤1048576) (ms:List Bool) (hm:ms.length=l.length) (ws:List Int):∀ d i,i + d=l.length→Ev (fun k=>foN k l ms ws (i:Int)) (fnF l ms ws d i):=by
 intro d
 induction d with
 | zero =>
  intro i hi
  refine ev_succ ?_
  simp only [foN,if_neg (show ¬ (i:Int) < (l.length:Int) by omega),fnF]
  exact ev_some _
 | succ d ih =>
  intro i hi
  refine ev_succ ?_
  simp only [foN,fnF,if_pos (show (i:Int) < (l.length:Int) by omega),if_pos (show 0≤(i:Int) by omega),quI,Option.bind_some,if_pos (show (i:Int) < (ms.length:Int) by omega),w64s i (show i < 4611686018427387904 by omega)]
  cases qu (rd_T99 l (i:Int)).f0 with
  | true=>exact ev_some _
  | false =>
   simp only [Bool.false_eq_true,if_false,Bool.not_false,Bool.true_and]
   by_cases hr:rdOf false ms (i:Int)=true
   ·simp only [if_pos hr]
    by_cases ho:(rd_T99 l (i:Int)).f0=1
    ·have hv:=tm_var l hT i (by omega) ho
     simp only [if_pos ho,if_pos (show 0≤(rd_T99 l (i:Int)).f2∧(rd_T99 l (i:Int)).f2 < 8 by omega)]
     by_cases he:(rd_T99 l (i:Int)).f1=rd ws (rd_T99 l (i:Int)).f2
     ·simp only [if_pos he,beq_iff_eq.2 he.symm,Bool.true_and]
      exact ih (i + 1) (by omega)
     ·simp only [if_neg he,beq_eq_false_iff_ne.2 (fun h=>he h.symm),Bool.false_and]
      exact ev_some _
    ·simp only [if_neg ho,Bool.true_and]
     exact ih (i + 1) (by omega)
   ·simp only [if_neg hr,Bool.true_and]
    exact ih (i + 1) (by omega)
theorem fnS (l:List S99) (hT:tmF l=true) (hn:l.length≤1048576) (ms:List Bool) (hm:ms.length=l.length) (ws:List Int) (hw:ws.length=8):∀ d i,i + d=l.length→Ev (fun k=>spec_FrontOk.l1 k l ws ms (i:Int)) (fnF l ms ws d i):=by
 intro d
 induction d with
 | zero =>
  intro i hi
  refine ev_succ ?_
  simp only [spec_FrontOk.l1,if_neg (show ¬ (i:Int) < (l.length:Int) by omega),fnF]
  exact ev_some _
 | succ d ih =>
  intro i hi
  refine ev_succ ?_
  simp only [spec_FrontOk.l1,fnF,if_pos (show (i:Int) < (l.length:Int) by omega),if_pos (show 0≤(i:Int) by omega),quS,Option.bind_some,if_pos (show (i:Int) < (ms.length:Int) by omega),w64s i (show i < 4611686018427387904 by omega)]
  cases qu (rd_T99 l (i:Int)).f0 with
  | true=>exact ev_some _
  | false =>
   simp only [Bool.false_eq_true,if_false,Bool.not_false,Bool.true_and]
   by_cases hr:rdOf false ms (i:Int)=true
   ·simp only [if_pos hr]
    by_cases ho:(rd_T99 l (i:Int)).f0=1
    ·have hv:=tm_var l hT i (by omega) ho
     simp only [if_pos ho,if_pos hv.1,if_pos (show (rd_T99 l (i:Int)).f2 < (ws.length:Int) by omega)]
     by_cases he:rd ws (rd_T99 l (i:Int)).f2=(rd_T99 l (i:Int)).f1
     ·simp only [if_pos he,beq_iff_eq.2 he,Bool.true_and]
      exact ih (i + 1) (by omega)
     ·simp only [if_neg he,beq_eq_false_iff_ne.2 he,Bool.false_and]
      exact ev_some _
    ·simp only [if_neg ho,Bool.true_and]
     exact ih (i + 1) (by omega)
   ·simp only [if_neg hr,Bool.true_and]
    exact ih (i + 1) (by omega)
def frF (q:List S66) (l:List S99):Bool:=match fwF q q.length 0 (List.replicate 8 0) with
 | none=>false
 | some ws=>tmF l && ((rd_T99 l ((l.length:Int) - 1)).f1 == 1 && fnF l (reF l l.length (ms0 l.length)) ws l.length 0)
theorem ws0:wsOk (List.replicate 8 0):=⟨rfl,fun x hx=>by rw [List.eq_of_mem_replicate hx];exact Int.le_refl _⟩
theorem tm_pos {l:List S99} (hT:tmF l=true):1≤l.length:=by
 unfold tmF at hT
 rw [Bool.and_eq_true] at hT
 have:=of_decide_eq_true hT.1
 omega
theorem frontI (q:List S66) (l:List S99) (hq:q.length≤1048576) (hl:l.length≤1048576):Ev (fun k=>impl_FrontOk.f k q l) (frF q l):=by
 have hw:wrap64 ((l.length:Int) - 1)=(l.length:Int) - 1:=w64 (by omega) (by omega)
 unfold impl_FrontOk.f frF
 have h1:=fwI q hq q.length 0 (by omega) _ ws0
 refine ev_bind (a:=fwF q q.length 0 (List.replicate 8 0)) (f:=fun k ws=>match ws with
  | none=>some false
  | some ws=>(impl_TermOk.f k l).bind fun t=>if t=true then (if 0≤wrap64 ((l.length:Int) - 1)∧wrap64 ((l.length:Int) - 1) < (l.length:Int) then (if (rd_T99 l (wrap64 ((l.length:Int) - 1))).f1=1 then (impl_reached.f k l).bind fun ms=>foN k l ms ws 0 else some false) else none) else some false) h1 ?_
 cases fwF q q.length 0 (List.replicate 8 0) with
 | none=>exact ev_some _
 | some ws =>
  dsimp only
  refine ev_bind (a:=tmF l) (f:=fun k t=>if t=true then (if 0≤wrap64 ((l.length:Int) - 1)∧wrap64 ((l.length:Int) - 1) < (l.length:Int) then (if (rd_T99 l (wrap64 ((l.length:Int) - 1))).f1=1 then (impl_reached.f k l).bind fun ms=>foN k l ms ws 0 else some false) else none) else some false) (termI l hl) ?_
  cases hT:tmF l with
  | false=>exact ev_some _
  | true =>
   have hp:=tm_pos hT
   simp only [if_true,hw,if_pos (show 0≤(l.length:Int) - 1∧(l.length:Int) - 1 < (l.length:Int) by omega),Bool.true_and]
   by_cases hW:(rd_T99 l ((l.length:Int) - 1)).f1=1
   ·simp only [if_pos hW,beq_iff_eq.2 hW,Bool.true_and]
    refine ev_bind (a:=reF l l.length (ms0 l.length)) (f:=fun k ms=>foN k l ms ws 0) (reachI l hT hl) ?_
    exact fnI l hT hl _ (by rw [reF_length,ms0_length]) ws l.length 0 (by omega)
   ·simp only [if_neg hW,beq_eq_false_iff_ne.2 hW,Bool.false_and]
    exact ev_some _
theorem zeros_ev:Ev (fun k=>spec_l04Zeros.f k) (List.replicate 8 0):=by
 have main:∀ j,j≤8→Ev (fun k=>spec_l04Zeros.l0 k (List.replicate j 0) (j:Int)) (List.replicate 8 0):=by
  refine ev_loop (fun k j=>spec_l04Zeros.l0 k (List.replicate j 0) (j:Int)) 8 _ (fun j hj h=>?_) ?_
  ·refine ev_succ ?_
   simp only [spec_l04Zeros.l0,if_pos (show (j:Int) < 8 by omega),if_pos (show (List.replicate j (0:Int)).length < 17592186044416 by simp;omega),w64s j (show j < 4611686018427387904 by omega),← List.replicate_succ']
   exact h
  ·refine ev_succ ?_
   simp only [spec_l04Zeros.l0,if_neg (show ¬ ((8:Nat):Int) < 8 by omega)]
   exact ev_some _
 exact main 0 (by omega)
theorem frontS (q:List S66) (l:List S99) (hq:q.length≤1048576) (hl:l.length≤1048576):Ev (fun k=>spec_FrontOk.f k q l) (frF q l):=by
 have hw:wrap64 ((l.length:Int) - 1)=(l.length:Int) - 1:=w64 (by omega) (by omega)
 have stop:Ev (fun k=>spec_FrontOk.j0 k q l true) false:=ev_succ (by simp only [spec_FrontOk.j0,if_true];exact ev_some _)
 unfold spec_FrontOk.f
 refine ev_bind (a:=tmF l) (f:=fun k t101=>if t101=true then (if 0≤(wrap64 ((l.length:Int) - 1)) then (if (wrap64 ((l.length:Int) - 1)) < (l.length:Int) then (spec_FrontOk.j0 k q l (((rd_T99 l (wrap64 ((l.length:Int) - 1))).f1) != 1)) else (none)) else (none)) else (spec_FrontOk.j0 k q l true)) (termS l hl) ?_
 cases hT:tmF l with
 | false =>
  have hz:frF q l=false:=by
   unfold frF
   rw [hT]
   cases fwF q q.length 0 (List.replicate 8 0) <;> rfl
  rw [hz]
  exact stop
 | true =>
  have hp:=tm_pos hT
  simp only [if_true,hw,if_pos (show 0≤(l.length:Int) - 1 by omega),if_pos (show (l.length:Int) - 1 < (l.length:Int) by omega)]
  by_cases hW:(rd_T99 l ((l.length:Int) - 1)).f1=1
  ·have hz:frF q l=orF (fwF q q.length 0 (List.replicate 8 0)) (fun ws=>fnF l (reF l l.length (ms0 l.length)) ws l.length 0):=by
    unfold frF orF
    rw [hT,beq_iff_eq.2 hW]
    cases fwF q q.length 0 (List.replicate 8 0) <;> rfl
   rw [hz]
   simp only [bne_eq_false_iff_eq.2 hW]
   refine ev_succ ?_
   simp only [spec_FrontOk.j0,Bool.false_eq_true,if_false]
   refine ev_bind (a:=List.replicate 8 0) (f:=fun k t103=>spec_FrontOk.l0 k q l t103 0) zeros_ev ?_
   refine fwS q l hq _ (fun ws hws=>?_) q.length 0 (by omega) _ ws0
   refine ev_bind (a:=reF l l.length (ms0 l.length)) (f:=fun k t115=>spec_FrontOk.l1 k l ws t115 0) (reachS l hT hl) ?_
   exact fnS l hT hl _ (by rw [reF_length,ms0_length]) ws hws.1 l.length 0 (by omega)
  ·have hz:frF q l=false:=by
    unfold frF
    rw [hT,beq_eq_false_iff_ne.2 hW]
    cases fwF q q.length 0 (List.replicate 8 0) <;> rfl
   rw [hz]
   simp only [bne_iff_ne.2 hW]
   exact stop
theorem fn_plain (l:List S99) (ms:List Bool) (ws:List Int):∀ d i,fnF l ms ws d i=true→∀ j,i≤j→j < i + d→qu (rd_T99 l (j:Int)).f0=false:=by
 intro d
 induction d with
 | zero=>intro i _ j h1 h2;omega
 | succ d ih =>
  intro i h j h1 h2
  simp only [fnF,Bool.and_eq_true] at h
  rcases Nat.lt_or_ge i j with h3|h3
  ·exact ih (i + 1) h.2.2 j (by omega) (by omega)
  ·obtain rfl:j=i:=by omega
   simpa using h.1
noncomputable def apV (o W K A B C w a b c:Int):Int:=if h : -9223372036854775808≤K∧K≤9223372036854775807 then Classical.choose (apApply o W K A B C w a b c h) else 0
theorem apV_ev (o W K A B C w a b c:Int) (h : -9223372036854775808≤K∧K≤9223372036854775807):Ev (fun k=>impl_Apply.f k o W K A B C w a b c) (apV o W K A B C w a b c)∧Ev (fun k=>spec_Apply.f k o W K A B C w a b c) (apV o W K A B C w a b c):=by
 unfold apV
 rw [dif_pos h]
 exact Classical.choose_spec (apApply o W K A B C w a b c h)
def v3 (vs:List Int) (ps:List Int) (q:Nat):Int:=if q < ps.length then rd vs (rd ps (q:Int)) else 0
def wd1 (l:List S99) (ps:List Int):Int:=if 0 < ps.length then (rd_T99 l (rd ps 0)).f1 else 1
noncomputable def oneF (l:List S99) (e vs:List Int) (x:S99):Int :=
 if x.f0=1 then rd e x.f2 else apV x.f0 x.f1 x.f2 x.f3 x.f4 x.f5 (wd1 l (np x)) (v3 vs (np x) 0) (v3 vs (np x) 1) (v3 vs (np x) 2)
noncomputable def vlist (l:List S99) (e:List Int):Nat→List Int
 | 0=>[]
 | i + 1=>vlist l e i ++ [oneF l e (vlist l e i) (rd_T99 l (i:Int))]
theorem vlist_length (l:List S99) (e:List Int) (i:Nat):(vlist l e i).length=i:=by
 induction i with
 | zero=>rfl
 | succ i ih=>simp [vlist,ih]
theorem onL_eq (k:Nat) (l:List S99) (vs:List Int) (hv:vs.length≤l.length) (o a b c:Int) (hp:∀ p∈parts o a b c,0≤p∧p < (vs.length:Int)) :
  onL (k + 4) l vs (parts o a b c) 0 1 [0,0,0]=some (wd1 l (parts o a b c),[v3 vs (parts o a b c) 0,v3 vs (parts o a b c) 1,v3 vs (parts o a b c) 2]):=by
 have h01:wrap64 1=1:=by unfold wrap64;omega
 have h12:wrap64 2=2:=by unfold wrap64;omega
 have h23:wrap64 3=3:=by unfold wrap64;omega
 have len:parts o a b c=[]∨parts o a b c=[a]∨parts o a b c=[a,b]∨parts o a b c=[a,b,c]:=by
  unfold parts
  repeat' split
  all_goals simp
 rcases len with e|e|e|e <;> rw [e] at hp ⊢
 ·simp [onL,wd1,v3]
 ·have h1:=hp a (by simp)
  have g1:a < (l.length:Int):=by omega
  simp [onL,wd1,v3,rd,h01,h1,g1]
 ·have h1:=hp a (by simp)
  have h2:=hp b (by simp)
  have g1:a < (l.length:Int):=by omega
  simp [onL,wd1,v3,rd,h01,h12,h1,h2,g1]
 ·have h1:=hp a (by simp)
  have h2:=hp b (by simp)
  have h3:=hp c (by simp)
  have g1:a < (l.length:Int):=by omega
  simp [onL,wd1,v3,rd,h01,h12,h23,h1,h2,h3,g1]
theorem oneS (l:List S99) (hT:tmF l=true) (hn:l.length≤1048576) (e vs:List Int) (he:e.length=8) (i:Nat) (hi:i < l.length) (hv:vs.length=i) (hq:qu (rd_T99 l (i:Int)).f0=false) (hK : -9223372036854775808≤(rd_T99 l (i:Int)).f2∧(rd_T99 l (i:Int)).f2≤9223372036854775807) :
  Ev (fun k=>spec_l04One.f k l e vs (i:Int)) (oneF l e vs (rd_T99 l (i:Int))):=by
 have hpp:=tm_parts l hT i hi
 unfold spec_l04One.f oneF
 simp only [if_pos (show 0≤(i:Int)∧(i:Int) < (l.length:Int) by omega)]
 by_cases ho:(rd_T99 l (i:Int)).f0=1
 ·have hx:=tm_var l hT i hi ho
  simp only [if_pos ho,if_pos (show 0≤(rd_T99 l (i:Int)).f2∧(rd_T99 l (i:Int)).f2 < (e.length:Int) by omega)]
  exact ev_some _
 ·simp only [if_neg ho,quS,hq,Option.bind_some,Bool.false_eq_true,if_false]
  refine ev_bind (a:=np (rd_T99 l (i:Int))) (f:=fun k ps=>(onL k l vs ps 0 1 [0,0,0]).bind fun q=>spec_Apply.f k (rd_T99 l (i:Int)).f0 (rd_T99 l (i:Int)).f1 (rd_T99 l (i:Int)).f2 (rd_T99 l (i:Int)).f3 (rd_T99 l (i:Int)).f4 (rd_T99 l (i:Int)).f5 q.1 (rd q.2 0) (rd q.2 1) (rd q.2 2)) (ev_step (f:=fun _=>some (np (rd_T99 l (i:Int)))) (fun k=>partsS k _ _ _ _ _ _) (ev_some _)) ?_
  refine ev_bind (a:=(wd1 l (np (rd_T99 l (i:Int))),[v3 vs (np (rd_T99 l (i:Int))) 0,v3 vs (np (rd_T99 l (i:Int))) 1,v3 vs (np (rd_T99 l (i:Int))) 2])) (f:=fun k q=>spec_Apply.f k (rd_T99 l (i:Int)).f0 (rd_T99 l (i:Int)).f1 (rd_T99 l (i:Int)).f2 (rd_T99 l (i:Int)).f3 (rd_T99 l (i:Int)).f4 (rd_T99 l (i:Int)).f5 q.1 (rd q.2 0) (rd q.2 1) (rd q.2 2)) ⟨4,fun k hk=>?_⟩ ?_
  ·obtain ⟨m,rfl⟩:∃ m,k=m + 4:=⟨k - 4,by omega⟩
   exact onL_eq m l vs (by omega) _ _ _ _ (fun p hp=>by have:=hpp p hp;omega)
  ·exact (apV_ev _ _ _ _ _ _ _ _ _ _ hK).2
theorem atS (l:List S99) (hT:tmF l=true) (hn:l.length≤1048576) (e:List Int) (he:e.length=8) (hq:∀ j:Nat,j < l.length→qu (rd_T99 l (j:Int)).f0=false) (hK:∀ j:Nat,j < l.length → -9223372036854775808≤(rd_T99 l (j:Int)).f2∧(rd_T99 l (j:Int)).f2≤9223372036854775807) :
  Ev (fun k=>spec_l04At.f k l e ((l.length:Int) - 1)) (rd (vlist l e l.length) ((l.length:Int) - 1)):=by
 have hp:=tm_pos hT
 have main:∀ j,j≤l.length→Ev (fun k=>atF l e ((l.length:Int) - 1) k (vlist l e j) (j:Int)) (rd (vlist l e l.length) ((l.length:Int) - 1)):=by
  refine ev_loop (fun k j=>atF l e ((l.length:Int) - 1) k (vlist l e j) (j:Int)) l.length _ (fun j hj h=>?_) ?_
  ·refine ev_succ ?_
   simp only [atF,if_pos (show (j:Int)≤(l.length:Int) - 1 by omega)]
   refine ev_bind (a:=oneF l e (vlist l e j) (rd_T99 l (j:Int))) (f:=fun k v=>if (vlist l e j).length < 17592186044416 then atF l e ((l.length:Int) - 1) k (vlist l e j ++ [v]) (wrap64 ((j:Int) + 1)) else none) (oneS l hT hn e (vlist l e j) he j hj (vlist_length l e j) (hq j hj) (hK j hj)) ?_
   simp only [vlist_length,if_pos (show j < 17592186044416 by omega),w64s j (show j < 4611686018427387904 by omega)]
   exact h
  ·refine ev_succ ?_
   simp only [atF,if_neg (show ¬ (l.length:Int)≤(l.length:Int) - 1 by omega),vlist_length,if_pos (show 0≤(l.length:Int) - 1∧(l.length:Int) - 1 < (l.length:Int) by omega)]
   exact ev_some _
 exact main 0 (by omega)
theorem vlist_get (l:List S99) (e:List Int) (i:Nat):∀ n,i < n→(vlist l e n).getD i 0=oneF l e (vlist l e i) (rd_T99 l (i:Int)):=by
 intro n
 induction n with
 | zero=>intro h;omega
 | succ n ih =>
  intro h
  simp only [vlist]
  rw [List.getD_eq_getElem?_getD]
  rcases Nat.lt_or_ge i n with h1|h1
  ·rw [List.getElem?_append_left (by rw [vlist_length];exact h1),← List.getD_eq_getElem?_getD]
   exact ih h1
  ·obtain rfl:i=n:=by omega
   rw [List.getElem?_append_right (by rw [vlist_length];omega),vlist_length,Nat.sub_self]
   rfl
theorem vlist_same (l:List S99) (e:List Int) (i n m:Nat) (h1:i < n) (h2:i < m):(vlist l e n).getD i 0=(vlist l e m).getD i 0:=by rw [vlist_get l e i n h1,vlist_get l e i m h2]
def knOk (V kn:List Int):Prop:=kn.length=V.length∧∀ q:Nat,q < V.length→rd kn (q:Int) < 0∨rd kn (q:Int)=V.getD q 0
theorem knOk_set {V kn:List Int} (h:knOk V kn) (i:Nat):knOk V (kn.set i (V.getD i 0)):=by
 refine ⟨by rw [List.length_set];exact h.1,fun q hq=>?_⟩
 rw [rd_nat,List.getD_eq_getElem?_getD,List.getElem?_set]
 by_cases e:i=q
 ·subst e
  rw [if_pos rfl,if_pos (by rw [h.1];exact hq)]
  exact Or.inr rfl
 ·rw [if_neg e,← List.getD_eq_getElem?_getD,← rd_nat]
  exact h.2 q hq
theorem vaL_ev (l:List S99) (e V:List Int) (hV:V.length=l.length) (P:Int→Prop) (hP:∀ p,P p→0≤p∧p < (l.length:Int)) (ih:∀ p,P p→∀ kn,knOk V kn→∃ kn',knOk V kn'∧Ev (fun k=>vaF k l e p kn) (rd V p,kn'))
  (o a b c:Int) (hp:∀ p∈parts o a b c,P p) (kn:List Int) (hk:knOk V kn):∃ kn',knOk V kn'∧Ev (fun k=>vaL k l e (parts o a b c) kn 0 1 0 0 0) (kn',wd1 l (parts o a b c),v3 V (parts o a b c) 0,v3 V (parts o a b c) 1,v3 V (parts o a b c) 2):=by
 have len:parts o a b c=[]∨parts o a b c=[a]∨parts o a b c=[a,b]∨parts o a b c=[a,b,c]:=by
  unfold parts
  repeat' split
  all_goals simp
 rcases len with e1|e1|e1|e1 <;> rw [e1] at hp ⊢
 ·exact ⟨kn,hk,ev_succ (by simp [vaL,wd1,v3];exact ev_some _)⟩
 ·obtain ⟨k1,h1,g1⟩:=ih a (hp a (by simp)) kn hk
  have b1:=hP a (hp a (by simp))
  refine ⟨k1,h1,ev_succ ?_⟩
  simp only [vaL,List.length_cons,List.length_nil,if_pos (show (0:Int) < ((0 + 1:Nat):Int) by decide),if_pos (show (0:Int)≤0 by decide),if_true]
  refine ev_bind (a:=(rd V a,k1)) (f:=fun k q=>if 0≤rd [a] 0∧rd [a] 0 < (l.length:Int) then vaL k l e [a] q.2 1 (rd_T99 l (rd [a] 0)).f1 q.1 0 0 else none) g1 ?_
  simp only [if_pos (show 0≤rd [a] 0∧rd [a] 0 < (l.length:Int) from b1)]
  exact ev_succ (by simp [vaL,wd1,v3,rd];exact ev_some _)
 ·obtain ⟨k1,h1,g1⟩:=ih a (hp a (by simp)) kn hk
  obtain ⟨k2,h2,g2⟩:=ih b (hp b (by simp)) k1 h1
  have b1:=hP a (hp a (by simp))
  refine ⟨k2,h2,ev_succ ?_⟩
  simp only [vaL,List.length_cons,List.length_nil,if_pos (show (0:Int) < ((0 + 1 + 1:Nat):Int) by decide),if_pos (show (0:Int)≤0 by decide),if_true]
  refine ev_bind (a:=(rd V a,k1)) (f:=fun k q=>if 0≤rd [a,b] 0∧rd [a,b] 0 < (l.length:Int) then vaL k l e [a,b] q.2 1 (rd_T99 l (rd [a,b] 0)).f1 q.1 0 0 else none) g1 ?_
  simp only [if_pos (show 0≤rd [a,b] 0∧rd [a,b] 0 < (l.length:Int) from b1)]
  refine ev_succ ?_
  simp only [vaL,List.length_cons,List.length_nil,if_pos (show (1:Int) < ((0 + 1 + 1:Nat):Int) by decide),if_pos (show (0:Int)≤1 by decide),if_neg (show ¬ (1:Int)=0 by decide),if_true]
  refine ev_bind (a:=(rd V b,k2)) (f:=fun k q=>vaL k l e [a,b] q.2 2 (rd_T99 l (rd [a,b] 0)).f1 (rd V a) q.1 0) g2 ?_
  exact ev_succ (by simp [vaL,wd1,v3,rd];exact ev_some _)
 ·obtain ⟨k1,h1,g1⟩:=ih a (hp a (by simp)) kn hk
  obtain ⟨k2,h2,g2⟩:=ih b (hp b (by simp)) k1 h1
  obtain ⟨k3,h3,g3⟩:=ih c (hp c (by simp)) k2 h2
  have b1:=hP a (hp a (by simp))
  refine ⟨k3,h3,ev_succ ?_⟩
  simp only [vaL,List.length_cons,List.length_nil,if_pos (show (0:Int) < ((0 + 1 + 1 + 1:Nat):Int) by decide),if_pos (show (0:Int)≤0 by decide),if_true]
  refine ev_bind (a:=(rd V a,k1)) (f:=fun k q=>if 0≤rd [a,b,c] 0∧rd [a,b,c] 0 < (l.length:Int) then vaL k l e [a,b,c] q.2 1 (rd_T99 l (rd [a,b,c] 0)).f1 q.1 0 0 else none) g1 ?_
  simp only [if_pos (show 0≤rd [a,b,c] 0∧rd [a,b,c] 0 < (l.length:Int) from b1)]
  refine ev_succ ?_
  simp only [vaL,List.length_cons,List.length_nil,if_pos (show (1:Int) < ((0 + 1 + 1 + 1:Nat):Int) by decide),if_pos (show (0:Int)≤1 by decide),if_neg (show ¬ (1:Int)=0 by decide),if_true]
  refine ev_bind (a:=(rd V b,k2)) (f:=fun k q=>vaL k l e [a,b,c] q.2 2 (rd_T99 l (rd [a,b,c] 0)).f1 (rd V a) q.1 0) g2 ?_
  refine ev_succ ?_
  simp only [vaL,List.length_cons,List.length_nil,if_pos (show (2:Int) < ((0 + 1 + 1 + 1:Nat):Int) by decide),if_pos (show (0:Int)≤2 by decide),if_neg (show ¬ (2:Int)=0 by decide),if_neg (show ¬ (2:Int)=1 by decide),if_true]
  refine ev_bind (a:=(rd V c,k3)) (f:=fun k q=>vaL k l e [a,b,c] q.2 3 (rd_T99 l (rd [a,b,c] 0)).f1 (rd V a) (rd V b) q.1) g3 ?_
  exact ev_succ (by simp [vaL,wd1,v3,rd];exact ev_some _)
theorem vaE (l:List S99) (hT:tmF l=true) (hn:l.length≤1048576) (e:List Int) (he:e.length=8) (hq:∀ j:Nat,j < l.length→qu (rd_T99 l (j:Int)).f0=false) (hK:∀ j:Nat,j < l.length → -9223372036854775808≤(rd_T99 l (j:Int)).f2∧(rd_T99 l (j:Int)).f2≤9223372036854775807) :
  ∀ i:Nat,i < l.length→∀ kn,knOk (vlist l e l.length) kn→∃ kn',knOk (vlist l e l.length) kn'∧Ev (fun k=>vaF k l e (i:Int) kn) (rd (vlist l e l.length) (i:Int),kn'):=by
 intro i
 induction i using Nat.strongRecOn with|ind i ih =>
 intro hi kn hk
 have hV:=vlist_length l e l.length
 have hlen:=hk.1
 rw [hV] at hlen
 have hval:rd (vlist l e l.length) (i:Int)=(vlist l e l.length).getD i 0:=rd_nat _ _
 by_cases h0:0≤rd kn (i:Int)
 ·refine ⟨kn,hk,ev_succ ?_⟩
  simp only [vaF,if_pos (show 0≤(i:Int)∧(i:Int) < (kn.length:Int) by omega),if_pos h0]
  rcases hk.2 i (by omega) with h|h
  ·omega
  ·rw [hval,h]
   exact ev_some _
 by_cases ho:(rd_T99 l (i:Int)).f0=1
 ·have hx:=tm_var l hT i hi ho
  refine ⟨kn.set i (rd (vlist l e l.length) (i:Int)),by rw [hval];exact knOk_set hk i,ev_succ ?_⟩
  simp only [vaF,if_pos (show 0≤(i:Int)∧(i:Int) < (kn.length:Int) by omega),if_neg h0,if_pos (show (i:Int) < (l.length:Int) by omega),if_pos ho,if_pos (show 0≤(rd_T99 l (i:Int)).f2∧(rd_T99 l (i:Int)).f2 < (e.length:Int) by omega),Int.toNat_natCast]
  rw [hval,vlist_get l e i l.length hi,oneF,if_pos ho]
  exact ev_some _
 ·have hpp:=tm_parts l hT i hi
  obtain ⟨kn',hk',g⟩:=vaL_ev l e (vlist l e l.length) hV (fun p=>0≤p∧p≤(i:Int) - 1) (fun p h=>by omega) (fun p h kn hk=>by
   obtain ⟨j,rfl⟩:=Int.eq_ofNat_of_zero_le h.1
   exact ih j (by omega) (by omega) kn hk) (rd_T99 l (i:Int)).f0 (rd_T99 l (i:Int)).f3 (rd_T99 l (i:Int)).f4 (rd_T99 l (i:Int)).f5 hpp kn hk
  have hv3:∀ q,v3 (vlist l e l.length) (np (rd_T99 l (i:Int))) q=v3 (vlist l e i) (np (rd_T99 l (i:Int))) q:=fun q=>by
   unfold v3
   by_cases h:q < (np (rd_T99 l (i:Int))).length
   ·rw [if_pos h,if_pos h]
    have hm:rd (np (rd_T99 l (i:Int))) (q:Int)∈np (rd_T99 l (i:Int)):=by rw [rd_nat,getD_lt _ q _ h];exact List.getElem_mem h
    have:=hpp _ hm
    obtain ⟨j,hj⟩:=Int.eq_ofNat_of_zero_le this.1
    rw [hj,rd_nat,rd_nat]
    exact vlist_same l e j _ _ (by omega) (by omega)
   ·rw [if_neg h,if_neg h]
  refine ⟨kn'.set i (rd (vlist l e l.length) (i:Int)),by rw [hval];exact knOk_set hk' i,ev_succ ?_⟩
  simp only [vaF,if_pos (show 0≤(i:Int)∧(i:Int) < (kn.length:Int) by omega),if_neg h0,if_pos (show (i:Int) < (l.length:Int) by omega),if_neg ho,quI,hq i hi,Option.bind_some,Bool.false_eq_true,if_false,Int.toNat_natCast]
  refine ev_bind (a:=np (rd_T99 l (i:Int))) (f:=fun k ps=>(vaL k l e ps kn 0 1 0 0 0).bind fun q=>(impl_Apply.f k (rd_T99 l (i:Int)).f0 (rd_T99 l (i:Int)).f1 (rd_T99 l (i:Int)).f2 (rd_T99 l (i:Int)).f3 (rd_T99 l (i:Int)).f4 (rd_T99 l (i:Int)).f5 q.2.1 q.2.2.1 q.2.2.2.1 q.2.2.2.2).bind fun v=>some (v,q.1.set i v)) (ev_step (f:=fun _=>some (np (rd_T99 l (i:Int)))) (fun k=>partsI k _ _ _ _ _ _) (ev_some _)) ?_
  refine ev_bind (f:=fun k q=>(impl_Apply.f k (rd_T99 l (i:Int)).f0 (rd_T99 l (i:Int)).f1 (rd_T99 l (i:Int)).f2 (rd_T99 l (i:Int)).f3 (rd_T99 l (i:Int)).f4 (rd_T99 l (i:Int)).f5 q.2.1 q.2.2.1 q.2.2.2.1 q.2.2.2.2).bind fun v=>some (v,q.1.set i v)) g ?_
  refine ev_bind (f:=fun k v=>some (v,kn'.set i v)) (apV_ev _ _ _ _ _ _ _ _ _ _ (hK i hi)).1 ?_
  rw [hval,vlist_get l e i l.length hi,oneF,if_neg ho]
  show Ev _ (apV _ _ _ _ _ _ (wd1 l (np (rd_T99 l (i:Int)))) (v3 (vlist l e i) (np (rd_T99 l (i:Int))) 0) (v3 (vlist l e i) (np (rd_T99 l (i:Int))) 1) (v3 (vlist l e i) (np (rd_T99 l (i:Int))) 2),_)
  rw [← hv3 0,← hv3 1,← hv3 2]
  exact ev_some _
def tiF (q:List S66) (t:Nat):Nat→Nat→Nat→List Int→List Int
 | 0,_,_,xs=>xs
 | d + 1,i,a,xs=>tiF q t d (i + 1) (a - (rd_T66 q (i:Int)).f2.toNat) (xs.set (rd_T66 q (i:Int)).f1.toNat (((t / 2 ^ (a - (rd_T66 q (i:Int)).f2.toNat):Nat):Int) % (2:Int) ^ (rd_T66 q (i:Int)).f2.toNat))
theorem sw_pos (q:List S66) (hw:∀ j:Nat,j < q.length→1≤(rd_T66 q (j:Int)).f2∧(rd_T66 q (j:Int)).f2≤8):∀ d i,i + d≤q.length→0≤swF q d i:=by
 intro d
 induction d with
 | zero=>intro i _;exact Int.le_refl _
 | succ d ih =>
  intro i hi
  have:=ih (i + 1) (by omega)
  have h:=hw i (by omega)
  simp only [swF]
  omega
theorem taI_ev (q:List S66) (hq:q.length≤1048576) (hw:∀ j:Nat,j < q.length→1≤(rd_T66 q (j:Int)).f2∧(rd_T66 q (j:Int)).f2≤8) (hv:∀ j:Nat,j < q.length→0≤(rd_T66 q (j:Int)).f1∧(rd_T66 q (j:Int)).f1≤7) (t:Nat) :
  ∀ d i,i + d=q.length→∀ (a:Nat) (xs:List Int),a≤12→swF q d i≤(a:Int)→xs.length=8→Ev (fun k=>taI k q (t:Int) (i:Int) (a:Int) xs) (tiF q t d i a xs):=by
 intro d
 induction d with
 | zero =>
  intro i hi a xs _ _ _
  refine ev_succ ?_
  simp only [taI,if_neg (show ¬ (i:Int) < (q.length:Int) by omega),tiF]
  exact ev_some _
 | succ d ih =>
  intro i hi a xs ha hs hx
  have h1:=hw i (by omega)
  have h2:=hv i (by omega)
  have h3:=sw_pos q hw d (i + 1) (by omega)
  simp only [swF] at hs
  obtain ⟨w,hw2⟩:=Int.eq_ofNat_of_zero_le (show 0≤(rd_T66 q (i:Int)).f2 by omega)
  have ea:wrap64 ((a:Int) - (rd_T66 q (i:Int)).f2)=((a - (rd_T66 q (i:Int)).f2.toNat:Nat):Int):=by unfold wrap64;omega
  have hle:a - (rd_T66 q (i:Int)).f2.toNat≤12:=by omega
  refine ev_succ ?_
  simp only [taI,tiF,if_pos (show (i:Int) < (q.length:Int) by omega),if_pos (show 0≤(i:Int) by omega),if_pos (show 0≤(rd_T66 q (i:Int)).f1∧(rd_T66 q (i:Int)).f1 < (xs.length:Int) by omega),ea,u64_of (show (0:Int)≤((a - (rd_T66 q (i:Int)).f2.toNat:Nat):Int) by omega) (by omega),if_pos (show (0:Int)≤((a - (rd_T66 q (i:Int)).f2.toNat:Nat):Int) by omega),w64s i (show i < 4611686018427387904 by omega),shr_nat t _ (show a - (rd_T66 q (i:Int)).f2.toNat≤60 by omega)]
  rw [hw2]
  simp only [apCut w (by omega),Option.bind_some,Int.toNat_natCast]
  rw [hw2] at hs
  exact ih (i + 1) (by omega) (a - w) _ (by omega) (by omega) (by rw [List.length_set];exact hx)
theorem tiF_length (q:List S66) (t:Nat):∀ d i a (xs:List Int),(tiF q t d i a xs).length=xs.length:=by
 intro d
 induction d with
 | zero=>intro i a xs;rfl
 | succ d ih=>intro i a xs;simp only [tiF];rw [ih,List.length_set]
def xsF (q:List S66) (n:Nat):Nat→List Int
 | 0=>List.replicate 8 0
 | t + 1=>tiF q t q.length 0 n (xsF q n t)
theorem xsF_length (q:List S66) (n:Nat):∀ t,(xsF q n t).length=8:=by
 intro t
 induction t with
 | zero=>rfl
 | succ t ih=>simp only [xsF];rw [tiF_length,ih]
noncomputable def rootF (q:List S66) (l:List S99) (n t:Nat):Int:=rd (vlist l (xsF q n (t + 1)) l.length) ((l.length:Int) - 1)
noncomputable def sgF (q:List S66) (l:List S99) (n:Nat):List Int:=(List.range (2 ^ n)).map fun t=>48 + rootF q l n t
theorem sgF_length (q:List S66) (l:List S99) (n:Nat):(sgF q l n).length=2 ^ n:=by simp [sgF]
theorem kn0 (V:List Int):knOk V (List.replicate V.length (-1)):=⟨List.length_replicate,fun q hq=>Or.inl (by rw [rd_nat,getD_lt _ q _ (by simpa using hq)];simp)⟩
theorem signI (v:Int) (h:v=0∨v=1):impl_sign.f v=some (48 + v):=by
 rcases h with rfl|rfl <;> decide +kernel
theorem taO_ev (q:List S66) (l:List S99) (n:Nat) (hn12:n≤12) (hq:q.length≤1048576) (hw:∀ j:Nat,j < q.length→1≤(rd_T66 q (j:Int)).f2∧(rd_T66 q (j:Int)).f2≤8) (hv:∀ j:Nat,j < q.length→0≤(rd_T66 q (j:Int)).f1∧(rd_T66 q (j:Int)).f1≤7) (hs:swF q q.length 0=(n:Int))
  (hT:tmF l=true) (hn:l.length≤1048576) (hp:∀ j:Nat,j < l.length→qu (rd_T99 l (j:Int)).f0=false) (hK:∀ j:Nat,j < l.length → -9223372036854775808≤(rd_T99 l (j:Int)).f2∧(rd_T99 l (j:Int)).f2≤9223372036854775807) (hb:∀ t,t < 2 ^ n→rootF q l n t=0∨rootF q l n t=1) :
  Ev (fun k=>taO q l (n:Int) k 0 (List.replicate (2 ^ n) 0) (List.replicate 8 0)) (sgF q l n):=by
 have hpos:=tm_pos hT
 have hN:2 ^ n≤4096:=Nat.le_trans (Nat.pow_le_pow_right (by decide) hn12) (by decide)
 have hsl:=sgF_length q l n
 have hwl:wrap64 ((l.length:Int) - 1)=((l.length - 1:Nat):Int):=by unfold wrap64;omega
 have main:∀ j:Nat,j≤2 ^ n→Ev (fun k=>taO q l (n:Int) k (j:Int) ((sgF q l n).take j ++ (List.replicate (2 ^ n) 0).drop j) (xsF q n j)) (sgF q l n):=by
  refine ev_loop (fun k j=>taO q l (n:Int) k (j:Int) ((sgF q l n).take j ++ (List.replicate (2 ^ n) 0).drop j) (xsF q n j)) (2 ^ n) _ (fun j hj h=>?_) ?_
  ·have hlen:((sgF q l n).take j ++ (List.replicate (2 ^ n) (0:Int)).drop j).length=2 ^ n:=by simp [hsl];omega
   refine ev_succ ?_
   simp only [taO,hlen,if_pos (show (j:Int) < ((2 ^ n:Nat):Int) by omega),if_pos (show 0≤(j:Int) by omega),Int.toNat_natCast,w64s j (show j < 4611686018427387904 by omega),hwl]
   refine ev_bind (a:=xsF q n (j + 1)) (taI_ev q hq hw hv j q.length 0 (by omega) n (xsF q n j) hn12 (by omega) (xsF_length q n j)) ?_
   obtain ⟨kn',hk',g⟩:=vaE l hT hn (xsF q n (j + 1)) (xsF_length q n (j + 1)) hp hK (l.length - 1) (by omega) (List.replicate l.length (-1)) (by have:=kn0 (vlist l (xsF q n (j + 1)) l.length);rw [vlist_length] at this;exact this)
   have er:rd (vlist l (xsF q n (j + 1)) l.length) ((l.length - 1:Nat):Int)=rootF q l n j:=by
    unfold rootF
    rw [show ((l.length - 1:Nat):Int)=(l.length:Int) - 1 from by omega]
   rw [er] at g
   refine ev_bind g ?_
   rw [signI _ (hb j hj)]
   simp only [Option.bind_some]
   rw [tm_front (sgF q l n) (List.replicate (2 ^ n) 0) j _ (by omega) (by simp;exact hj) (by
    unfold sgF
    rw [List.getElem?_map,List.getElem?_range hj]
    rfl)]
   exact h
  ·refine ev_succ ?_
   have hlen:((sgF q l n).take (2 ^ n) ++ (List.replicate (2 ^ n) (0:Int)).drop (2 ^ n)).length=2 ^ n:=by simp [hsl]
   simp only [taO,hlen,if_neg (show ¬ ((2 ^ n:Nat):Int) < ((2 ^ n:Nat):Int) by omega)]
   rw [List.take_of_length_le (by omega),List.drop_of_length_le (by simp),List.append_nil]
   exact ev_some _
 exact main 0 (by omega)
def inW (w v:Int):Prop:=0≤v∧v < (2:Int) ^ w.toNat
theorem inW_zero (w:Int):inW w 0:=⟨Int.le_refl _,Int.pow_pos (by decide)⟩
theorem inW_mod (n:Nat) (x:Int):inW (n:Int) (x % (2:Int) ^ n):=by
 have:(0:Int) < 2 ^ n:=Int.pow_pos (by decide)
 exact ⟨Int.emod_nonneg _ (by omega),Int.emod_lt_of_pos _ this⟩
theorem inW_one (w:Int) (h:1≤w) (v:Int) (hv:v=0∨v=1):inW w v:=by
 obtain ⟨n,rfl⟩:=Int.eq_ofNat_of_zero_le (show 0≤w by omega)
 have h2:(2:Int) ^ 1≤2 ^ n:=by
  have:(2:Nat) ^ 1≤2 ^ n:=Nat.pow_le_pow_right (by decide) (by omega)
  exact_mod_cast this
 unfold inW
 rw [Int.toNat_natCast]
 omega
theorem bits_w (n:Nat) (h8:n≤8) (a b:Int) (ha:inW (n:Int) a) (hb:inW (n:Int) b):inW (n:Int) (Go.bits .and .i64 a b)∧inW (n:Int) (Go.bits .or .i64 a b)∧inW (n:Int) (Go.bits .xor .i64 a b):=by
 obtain ⟨x,rfl⟩:=Int.eq_ofNat_of_zero_le ha.1
 obtain ⟨y,rfl⟩:=Int.eq_ofNat_of_zero_le hb.1
 have hx:x < 2 ^ n:=by have:=ha.2;rw [Int.toNat_natCast] at this;exact_mod_cast this
 have hy:y < 2 ^ n:=by have:=hb.2;rw [Int.toNat_natCast] at this;exact_mod_cast this
 have hN:2 ^ n≤256:=Nat.le_trans (Nat.pow_le_pow_right (by decide) h8) (by decide)
 have mk:∀ z:Nat,z < 2 ^ n→inW (n:Int) (z:Int):=fun z hz=>⟨Int.natCast_nonneg _,by rw [Int.toNat_natCast];exact_mod_cast hz⟩
 refine ⟨?_,?_,?_⟩
 ·rw [and_i64 x y (by omega) (by omega)]
  exact mk _ (Nat.and_lt_two_pow _ hy)
 ·rw [or_i64 x y (by omega) (by omega)]
  exact mk _ (Nat.or_lt_two_pow hx hy)
 ·have e:Go.bits .xor .i64 (x:Int) (y:Int)=((x ^^^ y:Nat):Int):=by
   unfold Go.bits
   show IntKind.i64.wrap (((BitVec.ofInt 64 (x:Int)) ^^^ (BitVec.ofInt 64 (y:Int))).toNat:Int)=_
   rw [BitVec.toNat_xor,BitVec.ofInt_natCast,BitVec.ofInt_natCast,BitVec.toNat_ofNat,BitVec.toNat_ofNat,Nat.mod_eq_of_lt (by omega),Nat.mod_eq_of_lt (by omega)]
   exact wraps_i64 _ (Int.natCast_nonneg _) (by have:=Nat.xor_lt_two_pow hx hy;omega)
  rw [e]
  exact mk _ (Nat.xor_lt_two_pow hx hy)
theorem mkF_keep (ps:List Int):∀ (ms:List Bool) (j:Nat),ms.getD j false=true→(mkF ms ps).getD j false=true:=by
 induction ps with
 | nil=>intro ms j h;exact h
 | cons p ps ih=>intro ms j h;exact ih _ j (mk_keep ms j _ h)
theorem mkF_mem (ps:List Int):∀ (ms:List Bool) (p:Int),p∈ps→p.toNat < ms.length→(mkF ms ps).getD p.toNat false=true:=by
 induction ps with
 | nil=>intro ms p h;cases h
 | cons q ps ih =>
  intro ms p h hp
  rcases List.mem_cons.1 h with rfl|h
  ·refine mkF_keep ps _ _ ?_
   rw [List.getD_eq_getElem?_getD,List.getElem?_set,if_pos rfl,if_pos hp]
   rfl
  ·exact ih _ p h (by rw [List.length_set];exact hp)
theorem mkF_far (ps:List Int):∀ (ms:List Bool) (j:Nat),(∀ p∈ps,p.toNat≠j)→(mkF ms ps).getD j false=ms.getD j false:=by
 induction ps with
 | nil=>intro ms j _;rfl
 | cons q ps ih =>
  intro ms j h
  show (mkF (ms.set q.toNat true) ps).getD j false=_
  rw [ih _ j (fun p hp=>h p (List.mem_cons_of_mem _ hp)),List.getD_eq_getElem?_getD,List.getElem?_set,if_neg (h q (List.mem_cons_self ..)),← List.getD_eq_getElem?_getD]
theorem reF_keep (l:List S99):∀ d (ms:List Bool) (j:Nat),ms.getD j false=true→(reF l d ms).getD j false=true:=by
 intro d
 induction d with
 | zero=>intro ms j h;exact h
 | succ d ih =>
  intro ms j h
  unfold reF
  refine ih _ j ?_
  split
  ·exact mkF_keep _ _ _ h
  ·exact h
theorem reF_high (l:List S99) (hT:tmF l=true):∀ d (ms:List Bool) (j:Nat),d≤j→d≤l.length→(reF l d ms).getD j false=ms.getD j false:=by
 intro d
 induction d with
 | zero=>intro ms j _ _;rfl
 | succ d ih =>
  intro ms j h hd
  unfold reF
  rw [ih _ j (by omega) (by omega)]
  split
  ·exact mkF_far _ _ _ (fun p hp=>by have:=tm_parts l hT d (by omega) p hp;omega)
  ·rfl
theorem reF_parts (l:List S99) (hT:tmF l=true):∀ d (ms:List Bool) (i:Nat),i < d→d≤l.length→ms.length=l.length→(reF l d ms).getD i false=true→∀ p∈np (rd_T99 l (i:Int)),(reF l d ms).getD p.toNat false=true:=by
 intro d
 induction d with
 | zero=>intro ms i h;omega
 | succ d ih =>
  intro ms i h hd hm hi p hp
  unfold reF at hi ⊢
  rcases Nat.lt_or_ge i d with h1|h1
  ·exact ih _ i h1 (by omega) (by split <;> simp [mkF_length,hm]) hi p hp
  ·obtain rfl:i=d:=by omega
   rw [reF_high l hT i _ i (Nat.le_refl _) (by omega)] at hi
   have hpi:=tm_parts l hT i (by omega)
   have hc:rdOf false ms (i:Int)=true:=by
    rw [rdOf_nat']
    split at hi
    ·next h2=>rw [rdOf_nat'] at h2;exact h2
    ·exact hi
   rw [if_pos hc]
   exact reF_keep l i _ _ (mkF_mem _ _ p hp (by have:=hpi p hp;omega))
theorem fwF_keep (q:List S66):∀ d i (ws ws':List Int),fwF q d i ws=some ws'→∀ K:Int,0≤K→rd ws K≠0→rd ws' K=rd ws K:=by
 intro d
 induction d with
 | zero=>intro i ws ws' h K _ _;cases h;rfl
 | succ d ih =>
  intro i ws ws' h K hK hn
  unfold fwF at h
  split at h
  ·next hc =>
   obtain ⟨h1,h2,h3⟩:=hc
   have hne:(rd_T66 q (i:Int)).f1.toNat≠K.toNat:=fun e=>hn (by rw [← show (rd_T66 q (i:Int)).f1=K from by omega];exact h3)
   have e:rd (ws.set (rd_T66 q (i:Int)).f1.toNat (rd_T66 q (i:Int)).f2) K=rd ws K:=by
    unfold rd
    rw [List.getD_eq_getElem?_getD,List.getElem?_set,if_neg hne,← List.getD_eq_getElem?_getD]
   rw [ih (i + 1) _ _ h K hK (by rw [e];exact hn),e]
  ·cases h
theorem fwF_at (q:List S66):∀ d i (ws ws':List Int),ws.length=8→fwF q d i ws=some ws'→∀ j:Nat,i≤j→j < i + d→(0≤(rd_T66 q (j:Int)).f1∧(rd_T66 q (j:Int)).f1≤7)∧(1≤(rd_T66 q (j:Int)).f2∧(rd_T66 q (j:Int)).f2≤8)∧rd ws' (rd_T66 q (j:Int)).f1=(rd_T66 q (j:Int)).f2:=by
 intro d
 induction d with
 | zero=>intro i ws ws' _ _ j h1 h2;omega
 | succ d ih =>
  intro i ws ws' hl h j h1 h2
  unfold fwF at h
  split at h
  ·next hc =>
   rcases Nat.lt_or_ge i j with h3|h3
   ·exact ih (i + 1) _ _ (by rw [List.length_set];exact hl) h j (by omega) (by omega)
   ·obtain rfl:j=i:=by omega
    obtain ⟨g1,g2,g3⟩:=hc
    have e:rd (ws.set (rd_T66 q (j:Int)).f1.toNat (rd_T66 q (j:Int)).f2) (rd_T66 q (j:Int)).f1=(rd_T66 q (j:Int)).f2:=by
     unfold rd
     rw [List.getD_eq_getElem?_getD,List.getElem?_set,if_pos rfl,if_pos (by omega)]
     rfl
    exact ⟨g1,g2,by rw [fwF_keep q d (j + 1) _ _ h _ g1.1 (by rw [e];omega),e]⟩
  ·cases h
def envOk (ws xs:List Int):Prop:=∀ K:Nat,K < 8→inW (rd ws (K:Int)) (rd xs (K:Int))
theorem envOk_zero (ws:List Int):envOk ws (List.replicate 8 0):=fun K hK=>by
 rw [rd_nat (List.replicate 8 0),getD_lt _ K _ (by simpa using hK),List.getElem_replicate]
 exact inW_zero _
theorem tiF_ok (q:List S66) (ws:List Int) (t:Nat):∀ d i,(∀ j:Nat,i≤j→j < i + d→(0≤(rd_T66 q (j:Int)).f1∧(rd_T66 q (j:Int)).f1≤7)∧(1≤(rd_T66 q (j:Int)).f2∧(rd_T66 q (j:Int)).f2≤8)∧rd ws (rd_T66 q (j:Int)).f1=(rd_T66 q (j:Int)).f2) →
  ∀ a (xs:List Int),xs.length=8→envOk ws xs→envOk ws (tiF q t d i a xs):=by
 intro d
 induction d with
 | zero=>intro i _ a xs _ h;exact h
 | succ d ih =>
  intro i hj a xs hx h
  simp only [tiF]
  refine ih (i + 1) (fun j h1 h2=>hj j (by omega) (by omega)) _ _ (by rw [List.length_set];exact hx) ?_
  obtain ⟨g1,g2,g3⟩:=hj i (Nat.le_refl _) (by omega)
  intro K hK
  rw [rd_nat (xs.set _ _),List.getD_eq_getElem?_getD,List.getElem?_set]
  by_cases e:(rd_T66 q (i:Int)).f1.toNat=K
  ·rw [if_pos e,if_pos (by omega),show ((K:Nat):Int)=(rd_T66 q (i:Int)).f1 from by omega,g3]
   obtain ⟨w,hw⟩:=Int.eq_ofNat_of_zero_le (show 0≤(rd_T66 q (i:Int)).f2 by omega)
   rw [hw,Int.toNat_natCast]
   exact inW_mod w _
  ·rw [if_neg e,← List.getD_eq_getElem?_getD,← rd_nat]
   exact h K hK
theorem xsF_ok (q:List S66) (ws:List Int) (n:Nat) (hj:∀ j:Nat,j < q.length→(0≤(rd_T66 q (j:Int)).f1∧(rd_T66 q (j:Int)).f1≤7)∧(1≤(rd_T66 q (j:Int)).f2∧(rd_T66 q (j:Int)).f2≤8)∧rd ws (rd_T66 q (j:Int)).f1=(rd_T66 q (j:Int)).f2):∀ t,envOk ws (xsF q n t):=by
 intro t
 induction t with
 | zero=>exact envOk_zero ws
 | succ t ih=>exact tiF_ok q ws t q.length 0 (fun j _ h=>hj j (by omega)) n _ (xsF_length q n t) ih
theorem fnF_at (l:List S99) (ms:List Bool) (ws:List Int):∀ d i,fnF l ms ws d i=true→∀ j:Nat,i≤j→j < i + d→ms.getD j false=true→(rd_T99 l (j:Int)).f0=1→rd ws (rd_T99 l (j:Int)).f2=(rd_T99 l (j:Int)).f1:=by
 intro d
 induction d with
 | zero=>intro i _ j h1 h2;omega
 | succ d ih =>
  intro i h j h1 h2 hm ho
  simp only [fnF,Bool.and_eq_true] at h
  rcases Nat.lt_or_ge i j with h3|h3
  ·exact ih (i + 1) h.2.2 j (by omega) (by omega) hm ho
  ·obtain rfl:j=i:=by omega
   have h4:=h.2.1
   rw [if_pos (show rdOf false ms (j:Int)=true by rw [rdOf_nat'];exact hm),if_pos ho] at h4
   exact beq_iff_eq.1 h4
theorem ones_data (l:List Bool):(ones l).data.toList=l.map fun b=>if b then (49:UInt8) else 48:=by simp [ones]
theorem contains1 (l:List Bool):(ones l).data.toList.contains 49=l.contains true:=by
 rw [ones_data]
 induction l with
 | nil=>rfl
 | cons b l ih =>
  rw [List.map_cons,List.contains_cons,List.contains_cons,ih]
  congr 1
  cases b <;> rfl
theorem contains0 (l:List Bool):(ones l).data.toList.contains 48=l.contains false:=by
 rw [ones_data]
 induction l with
 | nil=>rfl
 | cons b l ih =>
  rw [List.map_cons,List.contains_cons,List.contains_cons,ih]
  congr 1
  cases b <;> rfl
theorem impl_Table_known_eq (N:Int) (l:List Bool):impl_Table_known.f N (ones l)=some (if l.contains true then (if l.contains false then -1 else 1) else 0):=by
 unfold impl_Table_known.f
 rw [show strings_Contains.f (ones l) ⟨#[49]⟩=some ((ones l).data.toList.contains 49) from rfl,show strings_Contains.f (ones l) ⟨#[48]⟩=some ((ones l).data.toList.contains 48) from rfl,contains1,contains0]
 have hb:∀ b,impl_bit.f b=some (if b then 1 else 0):=fun b=>by cases b <;> rfl
 simp only [Option.bind_some,hb]
 cases l.contains true <;> cases l.contains false <;> rfl
theorem ones_extract (l:List Bool) (a b:Nat):(ones l).extract a b=ones ((l.take b).drop a):=by
 apply data_inj
 rw [ByteArray.data_extract]
 simp only [ones,Array.toList_extract,List.extract_eq_take_drop,List.map_drop,List.map_take]
 rw [List.drop_take]
def halfL (l:List Bool) (h:Bool):List Bool:=if h then l.drop (l.length / 2) else l.take (l.length / 2)
theorem halfL_len {n:Nat} {l:List Bool} (hl:l.length=2 ^ (n + 1)) (h:Bool):(halfL l h).length=2 ^ n:=by
 rw [Nat.pow_succ] at hl
 cases h <;> simp [halfL] <;> omega
theorem impl_half_eq (n:Nat) (l:List Bool) (hn:n≤11) (hl:l.length=2 ^ (n + 1)) (h:Int):impl_Table_half.f ((n + 1:Nat):Int) (ones l) h=some ((n:Int),ones (halfL l (h != 0))):=by
 have hp:=pow12 (n:=n + 1) (by omega)
 unfold impl_Table_half.f
 rw [ones_size,show ((l.length:Nat):Int) / 2=((l.length / 2:Nat):Int) by omega,w64 (n:=((l.length / 2:Nat):Int)) (by omega) (by omega),w64 (n:=((n + 1:Nat):Int) - 1) (by omega) (by omega),show ((n + 1:Nat):Int) - 1=(n:Int) by omega,Int.toNat_natCast]
 by_cases h0:h=0
 ·rw [if_pos h0,if_pos (by omega),if_pos (by omega),ones_extract,h0]
  rfl
 ·have e:(h != 0)=true:=bne_iff_ne.2 h0
  rw [if_neg h0,if_pos (by omega),if_pos (by omega),ones_extract,List.take_of_length_le (by omega),e]
  rfl
def dec:List Bool→List Bool→Bool
 | [],l=>l.getD 0 false
 | a :: r,l=>if a then dec r (halfL l false) && dec r (halfL l true) else dec r (halfL l false) || dec r (halfL l true)
theorem dec_const (b:Bool):∀ (r l:List Bool),l.length=2 ^ r.length→l.contains (!b)=false→dec r l=b:=by
 intro r
 induction r with
 | nil =>
  intro l hl hc
  match l,hl with
  | [x],_=>cases b <;> cases x <;> simp_all [dec]
 | cons a r ih =>
  intro l hl hc
  have hsub:∀ h,(halfL l h).contains (!b)=false:=by
   intro h
   rw [← Bool.not_eq_true,List.contains_iff_mem] at hc ⊢
   intro hm
   apply hc
   cases h
   ·exact List.mem_of_mem_take hm
   ·exact List.mem_of_mem_drop hm
  simp only [dec]
  rw [ih _ (halfL_len (by simpa using hl) false) (hsub false),ih _ (halfL_len (by simpa using hl) true) (hsub true)]
  cases a <;> cases b <;> rfl
def b01 (b:Bool):Int:=if b then 1 else 0
theorem impl_decide_eq:∀ (r l:List Bool),r.length≤12→l.length=2 ^ r.length→∀ k,r.length + 1 < k→impl_decide.f k r (r.length:Int) (ones l)=some (b01 (dec r l)):=by
 intro r
 induction r with
 | nil =>
  intro l _ hl k hk
  obtain ⟨k,rfl⟩:∃ m,k=m + 1:=⟨k - 1,by omega⟩
  simp only [impl_decide.f]
  match l,hl with
  | [x],_ =>
   rw [impl_Table_known_eq,Option.bind_some]
   cases x <;> rfl
 | cons a r ih =>
  intro l hr hl k hk
  obtain ⟨k,rfl⟩:∃ m,k=m + 1:=⟨k - 1,by omega⟩
  simp only [List.length_cons] at hr hl hk
  simp only [impl_decide.f]
  rw [impl_Table_known_eq,Option.bind_some]
  cases h1:l.contains true
  ·rw [show (if false=true then (if l.contains false=true then (-1:Int) else 1) else 0)=0 from rfl,if_pos (by decide),dec_const false (a :: r) l hl (by simpa using h1)]
   rfl
  ·cases h0:l.contains false
   ·rw [show (if true=true then (if false=true then (-1:Int) else 1) else 0)=1 from rfl,if_pos (by decide),dec_const true (a :: r) l hl (by simpa using h0)]
    rfl
   ·rw [show (if true=true then (if true=true then (-1:Int) else 1) else 0) = -1 from rfl,if_neg (by decide),List.length_cons,if_pos (by omega),impl_half_eq r.length l (by omega) hl 0,Option.bind_some,impl_half_eq r.length l (by omega) hl 1]
    simp only [Option.bind_some,List.drop_one,List.tail_cons]
    rw [ih _ (by omega) (halfL_len hl _) k (by omega),ih _ (by omega) (halfL_len hl _) k (by omega)]
    simp only [Option.bind_some]
    rw [if_pos (by omega),show rdOf false (a :: r) 0=a from rfl]
    simp only [dec]
    have e0:((0:Int) != 0)=false:=rfl
    have e1:((1:Int) != 0)=true:=rfl
    rw [e0,e1]
    cases a <;> cases dec r (halfL l false) <;> cases dec r (halfL l true) <;> rfl
def decT (r:List Bool) (N:Int) (s:ByteArray):Int × Bool:=if tok N s && ((r.length:Int) == N) then (b01 (dec r (flags s)),true) else (0,false)
theorem impl_Decide_eq (r:List Bool) (N:Int) (s:ByteArray) (hs:s.size≤1099511627776):∀ k,s.size + 40 < k→impl_Decide.f k r N s=some (decT r N s):=by
 intro k hk
 unfold impl_Decide.f impl_rowed.f decT
 rw [impl_TableOk_eq N s hs k (by omega),Option.bind_some]
 cases ht:tok N s with
 | false=>rfl
 | true =>
  obtain ⟨n,l,rfl,hn,hl,rfl⟩:=tok_form ht
  rw [if_pos rfl,Option.bind_some,flags_ones,Bool.true_and]
  by_cases hr:(r.length:Int)=(n:Int)
  ·have hr2:r.length=n:=by omega
   subst hr2
   rw [if_pos (by simp),if_pos (by simp),impl_decide_eq r l hn hl k (by omega)]
   rfl
  ·rw [if_neg (by simpa using hr),if_neg (by simpa using hr)]
def slc (L:List Bool) (m x:Nat):List Bool:=(L.drop (x * 2 ^ m)).take (2 ^ m)
theorem slc_low {L:List Bool} {w m x:Nat} (hL:L.length=2 ^ (w + m + 1)) (hx:x < 2 ^ w):slc (halfL L false) m x=slc L m x:=by
 unfold slc halfL
 have e:L.length / 2=2 ^ w * 2 ^ m:=by rw [hL,Nat.pow_succ,Nat.mul_div_cancel _ (by decide),Nat.pow_add]
 have h:x * 2 ^ m + 2 ^ m≤2 ^ w * 2 ^ m:=by
  have:=Nat.mul_le_mul_right (2 ^ m) (show x + 1≤2 ^ w from hx)
  rw [Nat.add_mul,Nat.one_mul] at this
  exact this
 rw [if_neg (by decide),e,List.drop_take,List.take_take,Nat.min_eq_left (by omega)]
theorem slc_high {L:List Bool} {w m x:Nat} (hL:L.length=2 ^ (w + m + 1)):slc (halfL L true) m x=slc L m (2 ^ w + x):=by
 unfold slc halfL
 have e:L.length / 2=2 ^ w * 2 ^ m:=by rw [hL,Nat.pow_succ,Nat.mul_div_cancel _ (by decide),Nat.pow_add]
 rw [if_pos rfl,e,List.drop_drop,Nat.add_mul]
theorem pow_step (w:Nat):2 ^ (w + 1)=2 ^ w + 2 ^ w:=by rw [Nat.pow_succ];omega
theorem dec_all (r:List Bool) (m:Nat):∀ (w:Nat) (L:List Bool),L.length=2 ^ (w + m)→(dec (List.replicate w true ++ r) L=true↔∀ x,x < 2 ^ w→dec r (slc L m x)=true):=by
 intro w
 induction w with
 | zero =>
  intro L hL
  have e:slc L m 0=L:=by unfold slc;rw [Nat.zero_mul,List.drop_zero,List.take_of_length_le (by rw [hL];simp)]
  constructor
  ·intro h x hx
   obtain rfl:x=0:=by simpa using hx
   rw [e]
   exact h
  ·intro h
   have:=h 0 (by simp)
   rw [e] at this
   exact this
 | succ w ih =>
  intro L hL
  have hL2:L.length=2 ^ (w + m + 1):=by rw [hL];congr 1;omega
  rw [List.replicate_succ,List.cons_append]
  simp only [dec,if_true,Bool.and_eq_true]
  rw [ih _ (halfL_len hL2 false),ih _ (halfL_len hL2 true)]
  constructor
  ·rintro ⟨h1,h2⟩ x hx
   rcases Nat.lt_or_ge x (2 ^ w) with h|h
   ·rw [← slc_low hL2 h]
    exact h1 x h
   ·obtain ⟨y,rfl⟩:∃ y,x=2 ^ w + y:=⟨x - 2 ^ w,by omega⟩
    rw [← slc_high hL2]
    exact h2 y (by have:=pow_step w;omega)
  ·intro h
   refine ⟨fun x hx=>?_,fun x hx=>?_⟩
   ·rw [slc_low hL2 hx]
    exact h x (by have:=pow_step w;omega)
   ·rw [slc_high hL2]
    exact h _ (by have:=pow_step w;omega)
theorem dec_any (r:List Bool) (m:Nat):∀ (w:Nat) (L:List Bool),L.length=2 ^ (w + m)→(dec (List.replicate w false ++ r) L=true↔∃ x,x < 2 ^ w∧dec r (slc L m x)=true):=by
 intro w
 induction w with
 | zero =>
  intro L hL
  have e:slc L m 0=L:=by unfold slc;rw [Nat.zero_mul,List.drop_zero,List.take_of_length_le (by rw [hL];simp)]
  constructor
  ·intro h
   exact ⟨0,by simp,by rw [e];exact h⟩
  ·rintro ⟨x,hx,h⟩
   obtain rfl:x=0:=by simpa using hx
   rw [e] at h
   exact h
 | succ w ih =>
  intro L hL
  have hL2:L.length=2 ^ (w + m + 1):=by rw [hL];congr 1;omega
  rw [List.replicate_succ,List.cons_append]
  simp only [dec,Bool.false_eq_true,if_false,Bool.or_eq_true]
  rw [ih _ (halfL_len hL2 false),ih _ (halfL_len hL2 true)]
  constructor
  ·rintro (⟨x,hx,h⟩ | ⟨x,hx,h⟩)
   ·exact ⟨x,by have:=pow_step w;omega,by rw [← slc_low hL2 hx];exact h⟩
   ·exact ⟨2 ^ w + x,by have:=pow_step w;omega,by rw [← slc_high hL2];exact h⟩
  ·rintro ⟨x,hx,h⟩
   rcases Nat.lt_or_ge x (2 ^ w) with h1|h1
   ·exact Or.inl ⟨x,h1,by rw [slc_low hL2 h1];exact h⟩
   ·obtain ⟨y,rfl⟩:∃ y,x=2 ^ w + y:=⟨x - 2 ^ w,by omega⟩
    exact Or.inr ⟨y,by have:=pow_step w;omega,by rw [slc_high hL2];exact h⟩
def eqv (q:List S66) (i:Nat) (xs ys:List Int):Prop:=xs.length=ys.length∧∀ K:Nat,(∀ j:Nat,i≤j→j < q.length→(rd_T66 q (j:Int)).f1.toNat≠K)→xs[K]? = ys[K]?
theorem eqv_refl (q:List S66) (i:Nat) (xs:List Int):eqv q i xs xs:=⟨rfl,fun _ _=>rfl⟩
theorem eqv_trans {q:List S66} {i:Nat} {xs ys zs:List Int} (h:eqv q i xs ys) (h2:eqv q i ys zs):eqv q i xs zs:=⟨h.1.trans h2.1,fun K hK=>(h.2 K hK).trans (h2.2 K hK)⟩
theorem eqv_set {q:List S66} {i:Nat} {xs ys:List Int} (h:eqv q i xs ys) (v:Int):eqv q (i + 1) (xs.set (rd_T66 q (i:Int)).f1.toNat v) (ys.set (rd_T66 q (i:Int)).f1.toNat v):=by
 refine ⟨by rw [List.length_set,List.length_set];exact h.1,fun K hK=>?_⟩
 rw [List.getElem?_set,List.getElem?_set,h.1]
 by_cases e:(rd_T66 q (i:Int)).f1.toNat=K
 ·rw [if_pos e,if_pos e]
 ·rw [if_neg e,if_neg e]
  refine h.2 K (fun j h1 h2=>?_)
  rcases Nat.eq_or_lt_of_le h1 with rfl|h3
  ·exact e
  ·exact hK j (by omega) h2
theorem eqv_drop {q:List S66} {i:Nat} (hi:i < q.length) {xs ys:List Int} {v:Int} (h:eqv q (i + 1) xs (ys.set (rd_T66 q (i:Int)).f1.toNat v)):eqv q i xs ys:=by
 refine ⟨by rw [h.1,List.length_set],fun K hK=>?_⟩
 rw [h.2 K (fun j h1 h2=>hK j (by omega) h2),List.getElem?_set,if_neg (hK i (Nat.le_refl _) hi)]
theorem tiF_eqv (q:List S66) (t:Nat):∀ d i,i + d=q.length→∀ a (xs ys:List Int),eqv q i xs ys→tiF q t d i a xs=tiF q t d i a ys:=by
 intro d
 induction d with
 | zero =>
  intro i hi a xs ys h
  exact List.ext_getElem? fun K=>h.2 K (fun j h1 h2=>by omega)
 | succ d ih =>
  intro i hi a xs ys h
  simp only [tiF]
  exact ih (i + 1) (by omega) _ _ _ (eqv_set h _)
theorem tiF_back (q:List S66) (t:Nat):∀ d i,i + d=q.length→∀ a (xs:List Int),eqv q i (tiF q t d i a xs) xs:=by
 intro d
 induction d with
 | zero=>intro i hi a xs;exact eqv_refl q i xs
 | succ d ih =>
  intro i hi a xs
  simp only [tiF]
  exact eqv_drop (by omega) (ih (i + 1) (by omega) _ _)
theorem tiF_mod (q:List S66) (hw:∀ j:Nat,j < q.length→1≤(rd_T66 q (j:Int)).f2∧(rd_T66 q (j:Int)).f2≤8) (t u:Nat):∀ d i,i + d=q.length→∀ (a:Nat) (xs:List Int),swF q d i=(a:Int)→t % 2 ^ a=u % 2 ^ a→tiF q t d i a xs=tiF q u d i a xs:=by
 intro d
 induction d with
 | zero=>intro i _ a xs _ _;rfl
 | succ d ih =>
  intro i hi a xs hs h
  have h1:=hw i (by omega)
  have h3:=sw_pos q hw d (i + 1) (by omega)
  simp only [swF] at hs
  obtain ⟨w,hw2⟩:=Int.eq_ofNat_of_zero_le (show 0≤(rd_T66 q (i:Int)).f2 by omega)
  obtain ⟨b,rfl⟩:∃ b,a=b + w:=⟨a - w,by omega⟩
  simp only [tiF,hw2,Int.toNat_natCast,Nat.add_sub_cancel]
  have e:t / 2 ^ b % 2 ^ w=u / 2 ^ b % 2 ^ w:=by
   rw [← Nat.mod_mul_right_div_self,← Nat.mod_mul_right_div_self,← Nat.pow_add,h]
  have e2:((t / 2 ^ b:Nat):Int) % (2:Int) ^ w=((u / 2 ^ b:Nat):Int) % (2:Int) ^ w:=by
   have:=congrArg (fun x:Nat=>(x:Int)) e
   push_cast at this ⊢
   exact this
  rw [e2]
  refine ih (i + 1) (by omega) b _ (by omega) ?_
  have hd:2 ^ b ∣ 2 ^ (b + w):=Nat.pow_dvd_pow 2 (by omega)
  rw [← Nat.mod_mod_of_dvd t hd,← Nat.mod_mod_of_dvd u hd,h]
def rwF (q:List S66):Nat→Nat→List Bool
 | 0,_=>[]
 | d + 1,i=>List.replicate (rd_T66 q (i:Int)).f2.toNat (rd_T66 q (i:Int)).f0 ++ rwF q d (i + 1)
noncomputable def rtF (l:List S99) (xs:List Int):Int:=rd (vlist l xs l.length) ((l.length:Int) - 1)
noncomputable def lfF (q:List S66) (l:List S99) (d i a:Nat) (xs:List Int):List Bool:=(List.range (2 ^ a)).map fun t=>rtF l (tiF q t d i a xs) == 1
theorem lfF_length (q:List S66) (l:List S99) (d i a:Nat) (xs:List Int):(lfF q l d i a xs).length=2 ^ a:=by simp [lfF]
theorem lfF_eqv {q:List S66} {l:List S99} {d i a:Nat} (hi:i + d=q.length) {xs ys:List Int} (h:eqv q i xs ys):lfF q l d i a xs=lfF q l d i a ys:=by
 unfold lfF
 refine List.map_congr_left fun t _=>?_
 rw [tiF_eqv q t d i hi a xs ys h]
theorem lfF_slc (q:List S66) (hw:∀ j:Nat,j < q.length→1≤(rd_T66 q (j:Int)).f2∧(rd_T66 q (j:Int)).f2≤8) (l:List S99) (d i:Nat) (hi:i + (d + 1)=q.length) (w b:Nat) (hw2:(rd_T66 q (i:Int)).f2=(w:Int)) (hs:swF q d (i + 1)=(b:Int)) (xs:List Int) (x:Nat) (hx:x < 2 ^ w) :
  slc (lfF q l (d + 1) i (w + b) xs) b x=lfF q l d (i + 1) b (xs.set (rd_T66 q (i:Int)).f1.toNat (x:Int)):=by
 have hb:0 < 2 ^ b:=Nat.two_pow_pos b
 have hxb:x * 2 ^ b + 2 ^ b≤2 ^ (w + b):=by
  have:=Nat.mul_le_mul_right (2 ^ b) (show x + 1≤2 ^ w from hx)
  rw [Nat.add_mul,Nat.one_mul,← Nat.pow_add] at this
  exact this
 unfold slc
 apply List.ext_getElem
 ·rw [List.length_take,List.length_drop,lfF_length,lfF_length]
  omega
 intro t h1 h2
 rw [lfF_length] at h2
 rw [List.getElem_take,List.getElem_drop]
 simp only [lfF,List.getElem_map,List.getElem_range]
 congr 2
 simp only [tiF,hw2,Int.toNat_natCast,Nat.add_sub_cancel_left]
 have e:(x * 2 ^ b + t) / 2 ^ b=x:=by
  rw [Nat.mul_comm,Nat.mul_add_div hb,Nat.div_eq_of_lt h2,Nat.add_zero]
 have e2:((x:Nat):Int) % (2:Int) ^ w=(x:Int):=Int.emod_eq_of_lt (Int.natCast_nonneg _) (by exact_mod_cast hx)
 rw [e,e2]
 exact tiF_mod q hw _ _ d (i + 1) (by omega) b _ hs (by rw [Nat.mul_add_mod_self_right])
theorem bsr {α:Type} (x:Option α):(x.bind fun t=>some t)=x:=by cases x <;> rfl
theorem wm (w:Nat) (h8:w≤8) (v:Int) (h0:0≤v) (h1:v < (2:Int) ^ w):inW (w:Int) v:=⟨h0,by rw [Int.toNat_natCast];exact h1⟩
theorem w_bit (W:Int) (h1:1≤W) (t:Bool) {v:Int} (h:impl_bit.f t=some v):inW W v:=by
 refine inW_one W h1 v ?_
 cases t
 ·exact Or.inl (Option.some.inj h).symm
 ·exact Or.inr (Option.some.inj h).symm
theorem w_two (n:Nat) (h1:1≤n) (h8:n≤8) (a b:Int) (I:Option Int) (v:Int) (hI:0≤a→a < (2:Int) ^ n→0≤b→b < (2:Int) ^ n→I=some v→inW (n:Int) v) (h:((impl_two.f (n:Int) a b).bind fun t=>if t=true then I else some 0)=some v):inW (n:Int) v:=by
 rw [apTwoI n h1 h8] at h
 cases ho:(apOk n a && apOk n b) with
 | false =>
  rw [ho] at h
  obtain rfl:=Option.some.inj h
  exact inW_zero _
 | true =>
  rw [ho] at h
  simp only [Bool.and_eq_true,apOk,decide_eq_true_eq] at ho
  exact hI ho.1.1 ho.1.2 ho.2.1 ho.2.2 h
theorem w_cut (n:Nat) (h8:n≤8) (x v:Int) (h:((impl_cut.f (n:Int) x).bind fun t=>some t)=some v):inW (n:Int) v:=by
 rw [apCut n h8] at h
 obtain rfl:=Option.some.inj h
 exact inW_mod n x
theorem w_binary (o:Int) (n:Nat) (h1:1≤n) (h8:n≤8) (a b v:Int) (ha:inW (n:Int) a) (hb:inW (n:Int) b) (h:impl_binary.f o (n:Int) a b=some v):inW (n:Int) v:=by
 have hp:=apPow n h8
 have hm:=apMask n h8
 unfold impl_binary.f at h
 split at h
 ·obtain rfl:=Option.some.inj h
  exact (bits_w n h8 a b ha hb).1
 split at h
 ·obtain rfl:=Option.some.inj h
  exact (bits_w n h8 a b ha hb).2.1
 split at h
 ·obtain rfl:=Option.some.inj h
  exact (bits_w n h8 a b ha hb).2.2
 split at h
 ·rw [bsr] at h
  exact w_two n h1 h8 a b _ v (fun _ _ _ _ h=>w_cut n h8 _ v h) h
 split at h
 ·rw [bsr] at h
  exact w_two n h1 h8 a b _ v (fun _ _ _ _ h=>w_cut n h8 _ v h) h
 split at h
 ·rw [bsr] at h
  exact w_two n h1 h8 a b _ v (fun _ _ _ _ h=>w_cut n h8 _ v h) h
 split at h
 ·rw [bsr] at h
  refine w_two n h1 h8 a b _ v (fun a0 a1 b0 b1 h=>?_) h
  rw [apU n h8,if_pos (show (0:Int)≤(n:Int) by omega),hm] at h
  split at h
  ·obtain rfl:=Option.some.inj h
   exact wm n h8 _ (by omega) (by omega)
  ·obtain rfl:=Option.some.inj h
   have h2:Int.tdiv a b≤a:=Int.tdiv_le_self _ a0
   have h3:0≤Int.tdiv a b:=Int.tdiv_nonneg a0 b0
   rw [show wrap64 (Int.tdiv a b)=Int.tdiv a b from by unfold wrap64;omega]
   exact wm n h8 _ h3 (by omega)
 split at h
 ·rw [bsr] at h
  refine w_two n h1 h8 a b _ v (fun a0 a1 b0 b1 h=>?_) h
  split at h
  ·obtain rfl:=Option.some.inj h
   exact wm n h8 _ a0 a1
  ·obtain rfl:=Option.some.inj h
   rw [Int.tmod_eq_emod_of_nonneg a0]
   have h2:0≤a % b:=Int.emod_nonneg _ (by assumption)
   have h3:a % b < b:=Int.emod_lt_of_pos _ (by omega)
   exact wm n h8 _ h2 (by omega)
 split at h
 ·rw [bsr] at h
  refine w_two n h1 h8 a b _ v (fun a0 a1 b0 b1 h=>?_) h
  split at h
  ·obtain rfl:=Option.some.inj h
   exact inW_zero _
  split at h
  ·exact w_cut n h8 _ v h
  ·cases h
 ·rw [bsr] at h
  refine w_two n h1 h8 a b _ v (fun a0 a1 b0 b1 h=>?_) h
  split at h
  ·obtain rfl:=Option.some.inj h
   exact inW_zero _
  ·obtain ⟨j,rfl⟩:=Int.eq_ofNat_of_zero_le b0
   obtain ⟨x,rfl⟩:=Int.eq_ofNat_of_zero_le a0
   have hj:j≤8:=by omega
   rw [apU j hj,if_pos (by omega),shr_nat x j (by omega)] at h
   obtain rfl:=Option.some.inj h
   have hle:x / 2 ^ j≤x:=Nat.div_le_self _ _
   generalize x / 2 ^ j=z at hle
   exact wm n h8 _ (by omega) (by omega)
theorem w_flip (n:Nat) (h1:1≤n) (h8:n≤8) (a v:Int) (h:impl_Flip.f (n:Int) a=some v):inW (n:Int) v:=by
 have hp:=apPow n h8
 have hm:=apMask n h8
 unfold impl_Flip.f at h
 rw [apWordI n h1 h8,apU n h8,if_pos (show (0:Int)≤(n:Int) by omega),hm] at h
 cases ho:apOk n a with
 | false =>
  rw [ho] at h
  obtain rfl:=Option.some.inj h
  exact inW_zero _
 | true =>
  rw [ho] at h
  simp only [apOk,decide_eq_true_eq] at ho
  obtain rfl:=Option.some.inj h
  rw [show wrap64 ((2:Int) ^ n - 1 - a)=(2:Int) ^ n - 1 - a from by unfold wrap64;omega]
  exact wm n h8 _ (by omega) (by omega)
theorem w_slice (u:Int) (n:Nat) (h8:n≤8) (a low v:Int) (h:impl_Slice.f u a low (n:Int)=some v):inW (n:Int) v:=by
 unfold impl_Slice.f at h
 obtain ⟨t,_,h⟩:=Option.bind_eq_some_iff.1 h
 split at h
 ·obtain ⟨t,_,h⟩:=Option.bind_eq_some_iff.1 h
  split at h
  ·obtain ⟨t,_,h⟩:=Option.bind_eq_some_iff.1 h
   split at h
   ·split at h
    ·exact w_cut n h8 _ v h
    ·cases h
   ·obtain rfl:=Option.some.inj h
    exact inW_zero _
  ·obtain rfl:=Option.some.inj h
   exact inW_zero _
 ·obtain rfl:=Option.some.inj h
  exact inW_zero _
theorem w_less (W w a b v:Int) (h1:1≤W) (h:impl_Less.f w a b=some v):inW W v:=by
 unfold impl_Less.f at h
 obtain ⟨t,_,h⟩:=Option.bind_eq_some_iff.1 h
 split at h
 ·rw [bsr] at h
  exact w_bit W h1 _ h
 ·rw [bsr] at h
  exact w_bit W h1 _ h
theorem w_lessSigned (W w a b v:Int) (h1:1≤W) (h:impl_LessSigned.f w a b=some v):inW W v:=by
 unfold impl_LessSigned.f at h
 obtain ⟨t,_,h⟩:=Option.bind_eq_some_iff.1 h
 split at h
 ·obtain ⟨x,_,h⟩:=Option.bind_eq_some_iff.1 h
  obtain ⟨y,_,h⟩:=Option.bind_eq_some_iff.1 h
  rw [bsr] at h
  exact w_bit W h1 _ h
 ·rw [bsr] at h
  exact w_bit W h1 _ h
theorem apV_in (o W K A B C w a b c x0 x1 x2:Int) (hK : -9223372036854775808≤K∧K≤9223372036854775807) (hW:1≤W∧W≤8) (ho:0≤o∧o≤18∧o≠1) (hop:opF o W K B x0 x1 x2=true)
  (hj:o=16→w=x0∧(1≤x0∧x0≤8)∧(1≤x1∧x1≤8)) (ha:inW x0 a) (hb:inW x1 b) (hc:inW x2 c):inW W (apV o W K A B C w a b c):=by
 obtain ⟨K0,e⟩:=(apV_ev o W K A B C w a b c hK).1
 have h:=e (K0 + 3) (by omega)
 clear e
 generalize apV o W K A B C w a b c=v at h ⊢
 dsimp only at h
 rw [apI] at h
 cases hg:apG W w a b c with
 | false =>
  rw [hg] at h
  simp only [impl_Apply.j0,Bool.not_false,if_true] at h
  obtain rfl:=Option.some.inj h
  exact inW_zero _
 | true =>
  rw [hg] at h
  simp only [apG,Bool.and_eq_true,decide_eq_true_eq] at hg
  obtain ⟨n,rfl⟩:=Int.eq_ofNat_of_zero_le (show 0≤W by omega)
  have n1:1≤n:=by omega
  have n8:n≤8:=by omega
  simp only [impl_Apply.j0,Bool.not_true,Bool.false_eq_true,if_false,apWithin,Option.bind_some,bsr] at h
  unfold opF at hop
  by_cases h0:o=0
  ·rw [if_pos h0] at h hop
   obtain rfl:=Option.some.inj h
   rw [Int.toNat_natCast] at hop
   have:=of_decide_eq_true hop
   exact wm n n8 _ this.1 this.2
  rw [if_neg h0] at h hop
  rw [if_neg ho.2.2] at hop
  by_cases h2:o=2
  ·rw [if_pos h2] at h
   exact w_flip n n1 n8 a v h
  rw [if_neg h2] at h hop
  by_cases h3:3≤o∧o≤12
  ·rw [if_pos (decide_eq_true h3)] at h
   rw [if_pos h3,Bool.and_eq_true] at hop
   have e0:=beq_iff_eq.1 hop.1
   have e1:=beq_iff_eq.1 hop.2
   rw [e0] at ha
   rw [e1] at hb
   exact w_binary o n n1 n8 a b v ha hb h
  rw [if_neg (by simpa using h3)] at h
  rw [if_neg h3] at hop
  by_cases h13:o=13
  ·rw [if_pos h13] at h
   exact w_bit _ hW.1 _ h
  rw [if_neg h13] at h
  by_cases h14:o=14
  ·rw [if_pos h14] at h
   exact w_less _ _ _ _ _ hW.1 h
  rw [if_neg h14] at h
  by_cases h15:o=15
  ·rw [if_pos h15] at h
   exact w_lessSigned _ _ _ _ _ hW.1 h
  rw [if_neg h15] at h
  rw [if_neg (by omega)] at hop
  by_cases h16:o=16
  ·obtain ⟨rfl,hx0,hx1⟩:=hj h16
   rw [if_pos h16] at hop
   have hs:=beq_iff_eq.1 hop
   obtain ⟨u,rfl⟩:=Int.eq_ofNat_of_zero_le (show 0≤w by omega)
   obtain ⟨z,rfl⟩:=Int.eq_ofNat_of_zero_le (show 0≤x1 by omega)
   have hnz:n=u + z:=by unfold wrap64 at hs;omega
   subst hnz
   have hz8:z≤8:=by omega
   rw [if_pos h16,decide_eq_false (show ¬ ((u + z:Nat):Int) < (u:Int) by omega)] at h
   simp only [impl_Apply.j1,Bool.false_eq_true,if_false,if_pos h16] at h
   rw [show wrap64 (((u + z:Nat):Int) - (u:Int))=(z:Int) from by unfold wrap64;omega,apU z hz8,if_pos (by omega)] at h
   obtain ⟨x,rfl⟩:=Int.eq_ofNat_of_zero_le ha.1
   obtain ⟨y,rfl⟩:=Int.eq_ofNat_of_zero_le hb.1
   have hxl:x < 2 ^ u:=by have:=ha.2;rw [Int.toNat_natCast] at this;exact_mod_cast this
   have hyl:y < 2 ^ z:=by have:=hb.2;rw [Int.toNat_natCast] at this;exact_mod_cast this
   have hz2:2 ^ z≤256:=Nat.le_trans (Nat.pow_le_pow_right (by decide) hz8) (by decide)
   have hu2:2 ^ u≤256:=Nat.le_trans (Nat.pow_le_pow_right (by decide) (show u≤8 by omega)) (by decide)
   have hm1:x * 2 ^ z + y < 2 ^ (u + z):=by
    rw [Nat.pow_add]
    have:=Nat.mul_le_mul_right (2 ^ z) (show x + 1≤2 ^ u from hxl)
    rw [Nat.add_mul,Nat.one_mul] at this
    omega
   have hm2:x * 2 ^ z≤256 * 256:=Nat.mul_le_mul (by omega) hz2
   rw [shl_nat x z (by omega) (by omega)] at h
   obtain rfl:=Option.some.inj h
   rw [show wrap64 (((x * 2 ^ z:Nat):Int) + (y:Int))=((x * 2 ^ z + y:Nat):Int) from by
    generalize x * 2 ^ z=m at hm2
    unfold wrap64
    omega]
   exact wm _ n8 _ (Int.natCast_nonneg _) (by exact_mod_cast hm1)
  rw [if_neg h16] at h hop
  simp only [impl_Apply.j1,Bool.false_eq_true,if_false,if_neg h16,bsr] at h
  by_cases h17:o=17
  ·rw [if_pos h17] at h
   exact w_slice _ n n8 _ _ _ h
  rw [if_neg h17] at h hop
  have h18:o=18:=by omega
  rw [if_pos h18] at h hop
  simp only [Bool.and_eq_true,beq_iff_eq] at hop
  by_cases hx:a=1
  ·rw [beq_iff_eq.2 hx] at h
   simp only [impl_Apply.j2,if_true] at h
   obtain rfl:=Option.some.inj h
   rw [← hop.2.1]
   exact hb
  ·rw [beq_eq_false_iff_ne.2 hx] at h
   simp only [impl_Apply.j2,Bool.false_eq_true,if_false,if_pos h18] at h
   obtain rfl:=Option.some.inj h
   rw [← hop.2.2]
   exact hc
theorem nd_at (l:List S99) (hT:tmF l=true) (i:Nat) (hi:i < l.length):ndF (l.take i) (rd_T99 l (i:Int))=true:=by
 unfold tmF at hT
 rw [Bool.and_eq_true] at hT
 exact tmA_at l l.length 0 hT.2 i (by omega) (by omega)
theorem rdN_take (l:List S99) (i:Nat) (p:Int) (h0:0≤p) (h1:p < (i:Int)):rd_T99 (l.take i) p=rd_T99 l p:=by
 obtain ⟨j,rfl⟩:=Int.eq_ofNat_of_zero_le h0
 rw [rdN_nat,rdN_nat,List.getD_eq_getElem?_getD,List.getD_eq_getElem?_getD,List.getElem?_take_of_lt (by omega)]
theorem nd_w (l:List S99) (hT:tmF l=true) (i:Nat) (hi:i < l.length):1≤(rd_T99 l (i:Int)).f1∧(rd_T99 l (i:Int)).f1≤8:=by
 have h:=nd_at l hT i hi
 unfold ndF at h
 simp only [Bool.and_eq_true,decide_eq_true_eq] at h
 exact h.1
theorem vl_in (l:List S99) (hT:tmF l=true) (ws xs:List Int) (hx:xs.length=8) (ms:List Bool) (hp:∀ i:Nat,i < l.length→ms.getD i false=true→∀ p∈np (rd_T99 l (i:Int)),ms.getD p.toNat false=true)
  (hq:∀ j:Nat,j < l.length→qu (rd_T99 l (j:Int)).f0=false) (hK:∀ j:Nat,j < l.length → -9223372036854775808≤(rd_T99 l (j:Int)).f2∧(rd_T99 l (j:Int)).f2≤9223372036854775807)
  (hv:∀ j:Nat,j < l.length→ms.getD j false=true→(rd_T99 l (j:Int)).f0=1→rd ws (rd_T99 l (j:Int)).f2=(rd_T99 l (j:Int)).f1) (he:envOk ws xs) :
  ∀ i:Nat,i < l.length→ms.getD i false=true→inW (rd_T99 l (i:Int)).f1 ((vlist l xs l.length).getD i 0):=by
 intro i
 induction i using Nat.strongRecOn with|ind i ih =>
 intro hi hm
 rw [vlist_get l xs i l.length hi]
 unfold oneF
 by_cases h1:(rd_T99 l (i:Int)).f0=1
 ·rw [if_pos h1,← hv i hi hm h1]
  have hk:=tm_var l hT i hi h1
  obtain ⟨K,hK2⟩:=Int.eq_ofNat_of_zero_le hk.1
  rw [hK2] at hk ⊢
  exact he K (by omega)
 ·rw [if_neg h1]
  have hnd:=nd_at l hT i hi
  unfold ndF at hnd
  simp only [Bool.and_eq_true,decide_eq_true_eq] at hnd
  obtain ⟨hW,ho,_,hpo,hop⟩:=hnd
  have hpp:=tm_parts l hT i hi
  have hqi:=hq i hi
  have hq2:(rd_T99 l (i:Int)).f0≠19∧(rd_T99 l (i:Int)).f0≠20:=by
   unfold qu at hqi
   have:=of_decide_eq_false hqi
   omega
  have part:∀ q:Nat,inW (w3 (l.take i) (np (rd_T99 l (i:Int))) q) (v3 (vlist l xs i) (np (rd_T99 l (i:Int))) q):=fun q=>by
   unfold w3 v3
   by_cases h:q < (np (rd_T99 l (i:Int))).length
   ·rw [if_pos h,if_pos h]
    have hmem:rd (np (rd_T99 l (i:Int))) (q:Int)∈np (rd_T99 l (i:Int)):=by rw [rd_nat,getD_lt _ q _ h];exact List.getElem_mem h
    have h2:=hpp _ hmem
    have h3:=hp i hi hm _ hmem
    rw [rdN_take l i _ h2.1 (by omega)]
    obtain ⟨j,hj⟩:=Int.eq_ofNat_of_zero_le h2.1
    rw [hj] at h2 h3 ⊢
    rw [rd_nat,← vlist_same l xs j l.length i (by omega) (by omega)]
    exact ih j (by omega) (by omega) (by simpa using h3)
   ·rw [if_neg h,if_neg h]
    exact inW_zero _
  refine apV_in _ _ _ _ _ _ _ _ _ _ _ _ _ (hK i hi) hW ⟨ho.1,by omega,h1⟩ hop (fun h16=>?_) (part 0) (part 1) (part 2)
  have hnp:np (rd_T99 l (i:Int))=[(rd_T99 l (i:Int)).f3,(rd_T99 l (i:Int)).f4]:=by
   unfold np parts
   rw [if_neg (by rw [hqi,h16];decide),if_pos (by omega)]
  rw [hnp] at hpp ⊢
  have p0:=hpp (rd_T99 l (i:Int)).f3 (by simp)
  have p1:=hpp (rd_T99 l (i:Int)).f4 (by simp)
  have e0:w3 (l.take i) [(rd_T99 l (i:Int)).f3,(rd_T99 l (i:Int)).f4] 0=(rd_T99 l (rd_T99 l (i:Int)).f3).f1:=by
   simp [w3,rd]
   rw [rdN_take l i _ p0.1 (by omega)]
  have e1:w3 (l.take i) [(rd_T99 l (i:Int)).f3,(rd_T99 l (i:Int)).f4] 1=(rd_T99 l (rd_T99 l (i:Int)).f4).f1:=by
   simp [w3,rd]
   rw [rdN_take l i _ p1.1 (by omega)]
  rw [e0,e1]
  refine ⟨by simp [wd1,rd],?_,?_⟩
  ·obtain ⟨j,hj⟩:=Int.eq_ofNat_of_zero_le p0.1
   rw [hj] at p0 ⊢
   exact nd_w l hT j (by omega)
  ·obtain ⟨j,hj⟩:=Int.eq_ofNat_of_zero_le p1.1
   rw [hj] at p1 ⊢
   exact nd_w l hT j (by omega)
end Go.Proofs.Ythipjoioicmcnaa.Pure
