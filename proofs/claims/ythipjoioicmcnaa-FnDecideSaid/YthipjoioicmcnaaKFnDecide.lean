-- texts of this session, merged by a program of it (wip/gen/pack.py)
import Derived.Test.YthipjoioicmcnaaKFnDecide33
import Derived.Test.YthipjoioicmcnaaKFnDecide19
import Derived.Test.YthipjoioicmcnaaKFnDecide21
import Derived.Test.YthipjoioicmcnaaKFnDecide4
import Derived.Test.YthipjoioicmcnaaKFnDecide7
import Derived.Test.YthipjoioicmcnaaKFnDecide14
import Derived.Test.YthipjoioicmcnaaKFnDecide2
import Derived.Test.YthipjoioicmcnaaKFnDecide10
import Derived.Test.YthipjoioicmcnaaKFnDecide12
import Derived.Test.YthipjoioicmcnaaKFnDecide28
import Derived.Test.YthipjoioicmcnaaKFnDecide32
import Derived.Test.YthipjoioicmcnaaKFnDecide30
import Derived.Test.YthipjoioicmcnaaKFnDecide27
import Derived.Test.YthipjoioicmcnaaKFnDecide18
import Derived.Test.YthipjoioicmcnaaRows
import Derived.Test.YthipjoioicmcnaaKFnDecide1
import Derived.WalkKit
import Derived.ProofKit
import Derived.OpenShut
import Derived.ShutString
import Derived.ChangeOld
import Derived.Below
set_option linter.unusedVariables false
set_option linter.unusedSimpArgs false
set_option maxHeartbeats 80000000
set_option maxRecDepth 100000
namespace Go.Proofs.Ythipjoioicmcnaa.Pure
open Go.RowKit Go.Proofs.Ythipjoioicmcnaa.G Go.Proofs.YthipjoioicmcnaaW.PrintWords Go.Proofs.YthipjoioicmcnaaW.PrintLast Go.Proofs.YthipjoioicmcnaaW.PrintMore
def fvE (x:bL) (v:Int) (b:Bool):Bool:=if (x.f0=19∨x.f0=20)∧x.f2=v then false else b
def fvN (x:bL) (R:List (List Bool)) (v:Int):Bool:=fvE x v (decide (x.f0=1∧x.f2=v) || (np x).any fun p=>cL false (fH R p) v)
def qM (l:List bL):Nat→List (List Bool)
 | 0=>[]
 | i + 1=>qM l i ++ [(List.range 8).map fun v:Nat=>fvN (aC l (i:Int)) (qM l i) (v:Int)]
theorem iP (l:List bL) (i:Nat):(qM l i).length=i:=by
 induction i with
 | zero=>rfl
 | succ i ih=>simp [qM,ih]
theorem qN (l:List bL) (i:Nat):∀ n,i < n→(qM l n).getD i []=(List.range 8).map fun v:Nat=>fvN (aC l (i:Int)) (qM l i) (v:Int):=by
 intro n
 induction n with
 | zero=>intro h;omega
 | succ n ih =>
  intro h
  simp only [qM]
  rw [List.getD_eq_getElem?_getD]
  rcases Nat.lt_or_ge i n with h1|h1
  ·rw [List.getElem?_append_left (by rw [iP];exact h1),← List.getD_eq_getElem?_getD]
   exact ih h1
  ·obtain rfl:i=n:=by omega
   rw [List.getElem?_append_right (by rw [iP];omega),iP,Nat.sub_self]
   rfl
theorem sE (x:List (List Bool)) (p:Nat):fH x (p:Int)=x.getD p []:=rfl
theorem aDG (l:List bL) (i:Nat):r8 (qM l i):=fun p hp=>by
 rw [iP] at hp
 rw [qN l p i hp]
 simp
theorem aHB (l:List bL) (x3:List (List Bool)) (i v:Nat) (hi:i < l.length) (hn:l.length≤1048576) (h3:x3.length=i) (h8:r8 x3) (hv:v < 8) (x5:List Bool) (h5:x5.length=v) (R:List Bool) (ps:List Int) (hl:ps.length≤3) (hp:∀ p∈ps,0≤p∧p≤(i:Int) - 1) (b0:Bool)
  (hE:Ev (fun k=>aT.l1 k l x3 (i:Int) (x5 ++ [fvE (aC l (i:Int)) (v:Int) (b0 || ps.any fun p=>cL false (fH x3 p) (v:Int))]) ((v + 1:Nat):Int)) R) :
  ∀ d j,j + d=ps.length→∀ f:Bool,(f || (ps.drop j).any fun p=>cL false (fH x3 p) (v:Int))=(b0 || ps.any fun p=>cL false (fH x3 p) (v:Int))→Ev (fun k=>aT.l2 k l x3 (i:Int) x5 (v:Int) f ps (j:Int)) R:=by
 intro d
 induction d with
 | zero =>
  intro j hj f hf
  rw [List.drop_of_length_le (by omega)] at hf
  simp only [List.any_nil,Bool.or_false] at hf
  rw [← hf] at hE
  have hx:x5.length < 140737488355328:=by omega
  refine aZ ?_
  unfold fvE at hE
  by_cases c:(aC l (i:Int)).f0=19
  ·by_cases c2:(aC l (i:Int)).f2=(v:Int)
   ·rw [if_pos ⟨Or.inl c,c2⟩] at hE
    simp only [aT.l2,if_neg (show ¬ (j:Int) < (ps.length:Int) by omega),if_pos (show 0≤(i:Int) by omega),if_pos (show (i:Int) < (l.length:Int) by omega),if_pos c,if_pos c2,if_pos hx,eP v (show v < 4611686018427387904 by omega)]
    exact hE
   ·rw [if_neg (fun h=>c2 h.2)] at hE
    simp only [aT.l2,if_neg (show ¬ (j:Int) < (ps.length:Int) by omega),if_pos (show 0≤(i:Int) by omega),if_pos (show (i:Int) < (l.length:Int) by omega),if_pos c,if_neg c2,if_pos hx,eP v (show v < 4611686018427387904 by omega)]
    exact hE
  ·by_cases c1:(aC l (i:Int)).f0=20
   ·by_cases c2:(aC l (i:Int)).f2=(v:Int)
    ·rw [if_pos ⟨Or.inr c1,c2⟩] at hE
     simp only [aT.l2,if_neg (show ¬ (j:Int) < (ps.length:Int) by omega),if_pos (show 0≤(i:Int) by omega),if_pos (show (i:Int) < (l.length:Int) by omega),if_neg c,if_pos c1,if_pos c2,if_pos hx,eP v (show v < 4611686018427387904 by omega)]
     exact hE
    ·rw [if_neg (fun h=>c2 h.2)] at hE
     simp only [aT.l2,if_neg (show ¬ (j:Int) < (ps.length:Int) by omega),if_pos (show 0≤(i:Int) by omega),if_pos (show (i:Int) < (l.length:Int) by omega),if_neg c,if_pos c1,if_neg c2,if_pos hx,eP v (show v < 4611686018427387904 by omega)]
     exact hE
   ·rw [if_neg (fun h=>h.1.elim c c1)] at hE
    simp only [aT.l2,if_neg (show ¬ (j:Int) < (ps.length:Int) by omega),if_pos (show 0≤(i:Int) by omega),if_pos (show (i:Int) < (l.length:Int) by omega),if_neg c,if_neg c1,if_pos hx,eP v (show v < 4611686018427387904 by omega)]
    exact hE
 | succ d ih =>
  intro j hj f hf
  have hd:ps.drop j=rd ps (j:Int) :: ps.drop (j + 1):=by
   rw [List.drop_eq_getElem_cons (show j < ps.length by omega),eO,dZ ps j _ (by omega)]
  rw [hd,List.any_cons] at hf
  refine aZ ?_
  cases f with
  | true =>
   have e:=ih (j + 1) (by omega) true (by rw [← hf,Bool.true_or,Bool.true_or])
   simp only [aT.l2,if_pos (show (j:Int) < (ps.length:Int) by omega),if_true,eP j (show j < 4611686018427387904 by omega)]
   exact e
  | false =>
   have hm:rd ps (j:Int)∈ps:=by rw [eO,dZ ps j _ (by omega)];exact List.getElem_mem _
   obtain ⟨p0,p1⟩:=hp _ hm
   obtain ⟨q,hq⟩:=Int.eq_ofNat_of_zero_le p0
   have hr8:(fH x3 (rd ps (j:Int))).length=8:=by
    rw [hq]
    exact h8 q (by omega)
   have e:=ih (j + 1) (by omega) (cL false (fH x3 (rd ps (j:Int))) (v:Int)) (by rw [← hf,Bool.false_or])
   simp only [aT.l2,if_pos (show (j:Int) < (ps.length:Int) by omega),Bool.false_eq_true,if_false,if_pos (show 0≤(j:Int) by omega),if_pos p0,if_pos (show rd ps (j:Int) < (x3.length:Int) by omega),if_pos (show 0≤(v:Int) by omega),hr8,if_pos (show (v:Int) < ((8:Nat):Int) by omega),eP j (show j < 4611686018427387904 by omega)]
   exact e
theorem aHA (l:List bL) (hT:fN l=true) (hn:l.length≤1048576) (i:Nat) (hi:i < l.length) (R:List Bool) (hE:Ev (fun k=>aT.l0 k l (qM l (i + 1)) ((i + 1:Nat):Int)) R) :
  ∀ d v,v + d=8→Ev (fun k=>aT.l1 k l (qM l i) (i:Int) ((List.range v).map fun u:Nat=>fvN (aC l (i:Int)) (qM l i) (u:Int)) (v:Int)) R:=by
 have h3:=iP l i
 intro d
 induction d with
 | zero =>
  intro v hv
  obtain rfl:v=8:=by omega
  refine aZ ?_
  simp only [aT.l1,if_neg (show ¬ ((8:Nat):Int) < 8 by decide),if_pos (show (qM l i).length < 5864062014805 by omega),eP i (show i < 4611686018427387904 by omega)]
  exact hE
 | succ d ih =>
  intro v hv
  have e:=ih (v + 1) (by omega)
  rw [List.range_succ,List.map_append] at e
  have hlen:((List.range v).map fun u:Nat=>fvN (aC l (i:Int)) (qM l i) (u:Int)).length=v:=by simp
  have hps:(np (aC l (i:Int))).length≤3:=by
   rcases gZ (aC l (i:Int)) with ⟨e,_⟩ | ⟨e,_⟩ | ⟨e,_⟩ | ⟨e,_⟩ <;> rw [e] <;> simp
  have go:∀ b:Bool,b=decide ((aC l (i:Int)).f0=1∧(aC l (i:Int)).f2=(v:Int))→Ev (fun k=>aT.j2 k l (qM l i) (i:Int) ((List.range v).map fun u:Nat=>fvN (aC l (i:Int)) (qM l i) (u:Int)) (v:Int) b) R:=fun b hb=>by
   refine aZ ?_
   simp only [aT.j2,if_pos (show 0≤(i:Int) by omega),if_pos (show (i:Int) < (l.length:Int) by omega)]
   refine bC (nQ _) ?_
   refine aHB l (qM l i) i v hi hn h3 (aDG l i) (by omega) _ hlen R _ hps (dD l hT i hi) b ?_ (np (aC l (i:Int))).length 0 (by omega) b rfl
   rw [hb]
   exact e
  refine aZ ?_
  by_cases c:(aC l (i:Int)).f0=1
  ·simp only [aT.l1,if_pos (show (v:Int) < 8 by omega),if_pos (show 0≤(i:Int) by omega),if_pos (show (i:Int) < (l.length:Int) by omega),if_pos c]
   refine go _ ?_
   by_cases c2:(aC l (i:Int)).f2=(v:Int)
   ·rw [beq_iff_eq.2 c2,decide_eq_true ⟨c,c2⟩]
   ·rw [beq_eq_false_iff_ne.2 c2,decide_eq_false (fun h=>c2 h.2)]
  ·simp only [aT.l1,if_pos (show (v:Int) < 8 by omega),if_pos (show 0≤(i:Int) by omega),if_pos (show (i:Int) < (l.length:Int) by omega),if_neg c]
   exact go _ (by rw [decide_eq_false (fun h=>c h.1)])
def frB (l:List bL) (i v:Nat):Bool:=fvN (aC l (i:Int)) (qM l i) (v:Int)
theorem aGZ (l:List bL) (hT:fN l=true) (hn:l.length≤1048576):Ev (fun k=>aT.f k l) ((List.range 8).map fun v=>frB l (l.length - 1) v):=by
 have hpos:=fF hT
 have hw:wrap64 ((l.length:Int) - 1)=((l.length - 1:Nat):Int):=by rw [jR (by omega) (by omega)];omega
 have main:∀ d i,i + d=l.length→Ev (fun k=>aT.l0 k l (qM l i) (i:Int)) ((List.range 8).map fun v=>frB l (l.length - 1) v):=by
  intro d
  induction d with
  | zero =>
   intro i hi
   obtain rfl:i=l.length:=by omega
   refine aZ ?_
   simp only [aT.l0,if_neg (show ¬ (l.length:Int) < (l.length:Int) by omega),hw,iP,if_pos (show (0:Int)≤((l.length - 1:Nat):Int) by omega),if_pos (show ((l.length - 1:Nat):Int) < (l.length:Int) by omega)]
   rw [sE,qN l (l.length - 1) l.length (by omega)]
   exact bA _
  | succ d ih =>
   intro i hi
   refine aZ ?_
   simp only [aT.l0,if_pos (show (i:Int) < (l.length:Int) by omega)]
   exact aHA l hT hn i (by omega) _ (ih (i + 1) (by omega)) 8 0 (by omega)
 exact main l.length 0 (by omega)
theorem xQ (l:List bL) (hT:fN l=true) (hn:l.length≤1048576):∃ r,Ev (fun k=>cT.f k l) r∧(r.length=0→∀ v,v < 8→frB l (l.length - 1) v=false):=by
 have e:=aGZ l hT hn
 generalize hF:(fun v=>frB l (l.length - 1) v)=F at *
 have main:∀ d i,i + d=8→∀ out:List Int,out.length≤i→∃ r,Ev (fun k=>cT.l0 k out ((List.range 8).map F) (i:Int)) r∧out.length≤r.length∧(r.length=0→∀ v,i≤v→v < 8→F v=false):=by
  intro d
  induction d with
  | zero =>
   intro i hi out ho
   refine ⟨out,aZ ?_,Nat.le_refl _,fun _ v _ _=>by omega⟩
   simp only [cT.l0,if_neg (show ¬ (i:Int) < 8 by omega)]
   exact bA _
  | succ d ih =>
   intro i hi out ho
   have hl:((List.range 8).map F).length=8:=by simp
   have hb:cL false ((List.range 8).map F) (i:Int)=F i:=by
    rw [fK,List.getD_eq_getElem?_getD,List.getElem?_map,List.getElem?_range (by omega)]
    rfl
   cases hF:F i with
   | true =>
    obtain ⟨r,e,h1,h2⟩:=ih (i + 1) (by omega) (out ++ [(i:Int)]) (by simp;omega)
    rw [List.length_append,List.length_singleton] at h1
    refine ⟨r,aZ ?_,by omega,fun h=>by omega⟩
    simp only [cT.l0,if_pos (show (i:Int) < 8 by omega),if_pos (show 0≤(i:Int) by omega),hl,if_pos (show (i:Int) < ((8:Nat):Int) by omega),hb,hF,if_true,if_pos (show out.length < 17592186044416 by omega),eP i (show i < 4611686018427387904 by omega)]
    exact e
   | false =>
    obtain ⟨r,e,h1,h2⟩:=ih (i + 1) (by omega) out (by omega)
    refine ⟨r,aZ ?_,h1,fun h v hv h8=>?_⟩
    ·simp only [cT.l0,if_pos (show (i:Int) < 8 by omega),if_pos (show 0≤(i:Int) by omega),hl,if_pos (show (i:Int) < ((8:Nat):Int) by omega),hb,hF,Bool.false_eq_true,if_false,eP i (show i < 4611686018427387904 by omega)]
     exact e
    ·rcases Nat.eq_or_lt_of_le hv with rfl|h3
     ·exact hF
     ·exact h2 h v h3 h8
 obtain ⟨r,e2,_,h⟩:=main 8 0 (by omega) [] (by simp)
 subst hF
 refine ⟨r,?_,fun h0 v hv=>h h0 v (Nat.zero_le _) hv⟩
 unfold cT.f
 simp only [Option.bind_some]
 refine bC (a:=true) (f:=fun k t104=>if t104=true then ((aT.f k l).bind fun t105=>(cT.l0 k [] t105 0)) else some []) (by rw [← hT];exact nT l hn) ?_
 simp only [if_true]
 exact bC (f:=fun k t105=>cT.l0 k [] t105 0) e e2
theorem aAL {l:List bL} (hT:fN l=true):frT l (frB l):=by
 intro i hi v hv h
 unfold frB fvN fvE at h
 by_cases c:((aC l (i:Int)).f0=19∨(aC l (i:Int)).f0=20)∧(aC l (i:Int)).f2=(v:Int)
 ·have hq:qu (aC l (i:Int)).f0=true:=(jN _).2 c.1
  exact ⟨fun h1=>by omega,fun p _=>Or.inr ⟨hq,c.2⟩⟩
 ·rw [if_neg c,Bool.or_eq_false_iff] at h
  refine ⟨fun h1 h2=>of_decide_eq_false h.1 ⟨h1,h2⟩,fun p hp=>Or.inl ?_⟩
  have h2:=h.2
  rw [List.any_eq_false] at h2
  have h3:=h2 p hp
  have hb:=dD l hT i hi p hp
  obtain ⟨z,rfl⟩:=Int.eq_ofNat_of_zero_le hb.1
  rw [sE,qN l z i (by omega),fK,List.getD_eq_getElem?_getD,List.getElem?_map,List.getElem?_range hv] at h3
  rw [Int.toNat_natCast]
  unfold frB
  cases hx:fvN (aC l (z:Int)) (qM l z) (v:Int) with
  | false=>rfl
  | true=>exact absurd hx h3
theorem wP (l:List bL) (S:lT l) (hn:l.length≤1048576) (h:Ev (fun k=>cI.f k l) true):∀ v,v < 8→frB l (l.length - 1) v=false:=by
 have hT:=S.tm
 have hpos:=fF hT
 obtain ⟨r,e,hr⟩:=xQ l hT hn
 refine hr ?_
 cases hl:r.length with
 | zero=>rfl
 | succ n =>
  exfalso
  have hw:wrap64 ((l.length:Int) - 1)=(l.length:Int) - 1:=jR (by omega) (by omega)
  have:Ev (fun k=>cI.f k l) false:=by
   unfold cI.f
   refine bC (a:=true) (f:=fun k t=>if t=true then _ else some false) (by rw [← hT];exact nT l hn) ?_
   simp only [if_true,hw,if_pos (show 0≤(l.length:Int) - 1∧(l.length:Int) - 1 < (l.length:Int) by omega),if_pos S.root]
   refine bC (f:=fun k fr=>if 0 < fr.length then some false else (bH.f k l).bind fun is=>(bM.f k l).bind fun hs=>zS k l is hs) e ?_
   simp only [if_pos (show 0 < r.length by omega)]
   exact bA _
  cases mC h this
theorem mO (a:Int) (h:a=0∨a=1):bB.f a 0 255=some true:=by rcases h with rfl|rfl <;> decide +kernel
theorem pw1:Ev (fun k=>aH.f k 1) 2:=jT 1 (fun k hk=>jU 1 (by decide) k hk)
theorem aCY (K A B C a b c:Int) (ha:a=0∨a=1) (hb:b=0∨b=1) (hc:c=0∨c=1) (hK : -9223372036854775808≤K∧K≤9223372036854775807):vO 2 1 K A B C 1 a b c=1 - a:=by
 refine tC _ _ _ _ _ _ _ _ _ _ _ hK ?_
 have h1:bB.f 1 1 8=some true:=by decide +kernel
 have hf:Ev (fun k=>iI.f k 1 a) (1 - a):=by
  have h2:iA 1 a=true:=by rcases ha with rfl|rfl <;> rfl
  have h3:=kU 1 (by decide) (by decide) a
  rw [h2] at h3
  unfold iI.f
  refine bC h3 ?_
  simp only [if_true]
  refine bC (pw1) ?_
  rw [jR (n:=(2:Int) - 1) (by decide) (by decide),jR (by omega) (by omega)]
  exact rT (fun k=>by congr 1) (bA _)
 unfold bS.f
 simp only [h1,mO a ha,mO b hb,mO c hc,Option.bind_some,if_true,Bool.not_true]
 refine aZ ?_
 simp only [bS.j0,Bool.false_eq_true,if_false,if_neg (show ¬ (2:Int)=0 by decide),if_true]
 exact bC hf (bA _)
theorem aCX (K A B C a b c:Int) (ha:a=0∨a=1) (hb:b=0∨b=1) (hc:c=0∨c=1) (hK : -9223372036854775808≤K∧K≤9223372036854775807):vO 3 1 K A B C 1 a b c=nE (a == 1 && b == 1):=by
 refine tC _ _ _ _ _ _ _ _ _ _ _ hK ?_
 have h1:bB.f 1 1 8=some true:=by decide +kernel
 have e:Go.bits .and .i64 a b=nE (a == 1 && b == 1):=by rcases ha with rfl|rfl <;> rcases hb with rfl|rfl <;> decide +kernel
 unfold bS.f
 simp only [h1,mO a ha,mO b hb,mO c hc,Option.bind_some,if_true,Bool.not_true]
 refine aZ ?_
 simp only [bS.j0,Bool.false_eq_true,if_false,if_neg (show ¬ (3:Int)=0 by decide),if_neg (show ¬ (3:Int)=2 by decide),if_true,e]
 exact bA _
theorem aFN (K A B C a b c:Int) (ha:a=0∨a=1) (hb:b=0∨b=1) (hc:c=0∨c=1) (hK : -9223372036854775808≤K∧K≤9223372036854775807):vO 4 1 K A B C 1 a b c=nE (a == 1 || b == 1):=by
 refine tC _ _ _ _ _ _ _ _ _ _ _ hK ?_
 have h1:bB.f 1 1 8=some true:=by decide +kernel
 have e:Go.bits .or .i64 a b=nE (a == 1 || b == 1):=by rcases ha with rfl|rfl <;> rcases hb with rfl|rfl <;> decide +kernel
 unfold bS.f
 simp only [h1,mO a ha,mO b hb,mO c hc,Option.bind_some,if_true,Bool.not_true]
 refine aZ ?_
 simp only [bS.j0,Bool.false_eq_true,if_false,if_neg (show ¬ (4:Int)=0 by decide),if_neg (show ¬ (4:Int)=2 by decide),if_neg (show ¬ (4:Int)=3 by decide),if_true,e]
 exact bA _
theorem qG (b:Bool):(nE b == 1)=b:=by cases b <;> rfl
theorem zH {x:bL} {g:Nat→List Int→Int} {e:List Int} (h0:x.f0=2) (h1:x.f1=1) (hn:(np x).length=1) (hK : -9223372036854775808≤x.f2∧x.f2≤9223372036854775807) (hg:g 0 e=0∨g 0 e=1):(vS x 1 g e == 1) = !(g 0 e == 1):=by
 unfold vS
 rw [h0,h1,hn,if_neg (by decide),if_neg (by decide),if_pos (by decide),if_neg (by decide),if_neg (by decide),aCY _ _ _ _ _ _ _ hg (Or.inl rfl) (Or.inl rfl) hK]
 rcases hg with h|h <;> rw [h] <;> rfl
theorem aEV {x:bL} {g:Nat→List Int→Int} {e:List Int} (h0:x.f0=3∨x.f0=4) (h1:x.f1=1) (hn:(np x).length=2) (hK : -9223372036854775808≤x.f2∧x.f2≤9223372036854775807) (hg:g 0 e=0∨g 0 e=1) (hg2:g 1 e=0∨g 1 e=1) :
  (vS x 1 g e == 1)=if x.f0=3 then (g 0 e == 1) && (g 1 e == 1) else (g 0 e == 1) || (g 1 e == 1):=by
 unfold vS
 rcases h0 with h0|h0
 ·rw [h0,h1,hn,if_neg (by decide),if_neg (by decide),if_pos (by decide),if_pos (by decide),if_neg (by decide),if_pos rfl,aCX _ _ _ _ _ _ _ hg hg2 (Or.inl rfl) hK,qG]
 ·rw [h0,h1,hn,if_neg (by decide),if_neg (by decide),if_pos (by decide),if_pos (by decide),if_neg (by decide),if_neg (by decide),aFN _ _ _ _ _ _ _ hg hg2 (Or.inl rfl) hK,qG]
theorem aDB (c a b tn:Bool):((if c=true then a && b else a || b) != tn)=true↔cn (c != tn) ((a != tn)=true) ((b != tn)=true):=by cases c <;> cases a <;> cases b <;> cases tn <;> simp [cn]
theorem aGB (f:Nat→Bool) (n:Nat) (c tn:Bool):(if (c != tn)=true then ∀ y:Nat,y < n→(f y != tn)=true else ∃ y:Nat,y < n∧(f y != tn)=true)↔(((if c=true then (List.range n).all f else (List.range n).any f)) != tn)=true:=by
 have ha:(List.range n).all f=true↔∀ y,y < n→f y=true:=by simp [List.all_eq_true]
 have hb:(List.range n).any f=true↔∃ y,y < n∧f y=true:=by simp [List.any_eq_true]
 have hna:(List.range n).all f=false↔∃ y,y < n∧f y=false:=by simp [List.all_eq_false]
 have hnb:(List.range n).any f=false↔∀ y,y < n→f y=false:=by simp [List.any_eq_false]
 cases c <;> cases tn
 ·simp [hb]
 ·simp [hnb]
 ·simp [ha]
 ·simp [hna]
structure aGT (l:List bL) (F:Nat→Nat→Bool) (ws:List Int) (V:List Nat) (i:Nat) (tn:Bool) (q:List eS):Prop where
 map:q.map (fun x=>(x.f1,x.f2))=(qs l V).map (qp l)
 far:∀ v,v < 8→F i v=false→(∀ j∈qs l V,(aC l (j:Int)).f2≠(v:Int))→∀ e (y:Int),MQ l i (e.set v y)=MQ l i e
 hp:∀ e,good ws e→(HP q (fun e=>((MQ l i e == 1) != tn)=true) e↔((VQ l i e == 1) != tn)=true)
theorem xW {w v:Int} (h:lE w v) (hw:w=1):v=0∨v=1:=by
 subst hw
 unfold lE at h
 have h2:(2:Int) ^ (1:Int).toNat=2:=by decide
 rw [h2] at h
 omega
theorem yO {l:List bL} (S:lT l) {ws:List Int} (I:snI l (hG l) l.length ws) {V:List Nat} {q:List eS} (hV:∀ j∈V,j < l.length∧cL false (hG l) (j:Int)=true) (h:q.map (fun x=>(x.f1,x.f2))=(qs l V).map (qp l)):aBE ws q:=by
 intro x hx
 have h1:(x.f1,x.f2)∈(qs l V).map (qp l):=by rw [← h];exact List.mem_map.2 ⟨x,hx,rfl⟩
 obtain ⟨j,hj,e⟩:=List.mem_map.1 h1
 obtain ⟨e1,e2⟩:=Prod.mk.inj e
 obtain ⟨hj1,hj2⟩:=List.mem_filter.1 hj
 have h3:=hV j hj1
 have hq:=iZ l S.tm j h3.1 hj2
 have h4:=I.at_ j h3.1 ⟨h3.2,hj2⟩
 rw [← e1,← e2]
 exact ⟨hq.1,hq.2.1,h4⟩
section
variable {l:List bL} (S:lT l) {ws:List Int} (I:snI l (hG l) l.length ws) (hv:∀ j,j < l.length→cL false (hG l) (j:Int)=true→(aC l (j:Int)).f0=1→rd ws (aC l (j:Int)).f2=(aC l (j:Int)).f1)
include S
include hv
theorem qC {i:Nat} (hi:i < l.length) (hm:cL false (hG l) (i:Int)=true) (h1:(aC l (i:Int)).f1=1) {e:List Int} (he:good ws e):VQ l i e=0∨VQ l i e=1:=by
 have hT:=S.tm
 refine xW (aBU hT ws (fun p=>cL false (hG l) (p:Int)=true) (fun p hp h c hc=>?_) (fun j hj hm h=>hv j hj hm h) e he.2 i hi hm) h1
 have hb:=dD l hT p hp c hc
 have:=iL l hT p hp h c hc
 rw [Int.toNat_of_nonneg hb.1]
 exact this
theorem sT {i:Nat} (hi:i < l.length) (hm:cL false (hG l) (i:Int)=true) (h1:(aC l (i:Int)).f1=1) {e:List Int} (he:good ws e):MQ l i e=0∨MQ l i e=1:=by
 have hT:=S.tm
 obtain ⟨_,b1,b2,b3,b4⟩:=nN l hT l.length i hi hi
 have hx:∀ p:Nat,p < l.length→aC (TH l) (p:Int)=mv (mK l) (aC l (p:Int)):=fun p hp=>jP l l.length p hp
 have hl:(TH l).length=l.length:=eJ l _
 have h:=aBU (uM hT) ws (fun p=>p < l.length∧cL false (hG l) (p:Int)=true∧qu (aC l (p:Int)).f0=false) (fun p hp h c hc=>by
  rw [hx p h.1,mS] at hc
  obtain ⟨z,hz,rfl⟩:=List.mem_map.1 hc
  have hb:=dD l hT p h.1 z hz
  have hmz:=iL l hT p h.1 h.2.1 z hz
  obtain ⟨z,rfl⟩:=Int.eq_ofNat_of_zero_le hb.1
  obtain ⟨_,c1,c2,_,c4⟩:=nN l hT l.length z (by omega) (by omega)
  unfold mK
  rw [Int.toNat_natCast,Int.toNat_natCast]
  exact ⟨by omega,c4 hmz,c2⟩) (fun j hj h ho=>by
  rw [hx j h.1] at ho ⊢
  exact hv j h.1 h.2.1 ho) e he.2 (nM l l.length i) (by omega) ⟨by omega,b4 hm,b2⟩
 rw [hx _ (by omega)] at h
 exact xW h (b3.trans h1)
include I
theorem aBB {F:Nat→Nat→Bool} (hF:frT l F):∀ d i,i < d→i < l.length→cL false (hG l) (i:Int)=true→(aC l (i:Int)).f1=1→(jQ l (gE l) d i).Nodup→(∀ j∈qs l (jQ l (gE l) d i),F i (aC l (j:Int)).f2.toNat=false) →
  ∀ tn:Bool,∃ q,Ev (fun k=>dA.f k l (gE l) (i:Int) tn) q∧aGT l F ws (jQ l (gE l) d i) i tn q:=by
 have hT:=S.tm
 have hl8:=iF hT
 have hH:(gE l).length=l.length:=iB l l.length
 intro d
 induction d with
 | zero=>intro i h;omega
 | succ d ih =>
  intro i hd hi hm hw1 hN hfr tn
  have g:(0≤(i:Int)∧(i:Int) < (l.length:Int))∧(i:Int) < ((gE l).length:Int):=by omega
  have len:∀ (q:List eS) (V:List Nat),q.map (fun x=>(x.f1,x.f2))=(qs l V).map (qp l)→V.length≤l.length→q.length≤80:=fun q V e hV=>by
   have h1:=congrArg List.length e
   rw [List.length_map,List.length_map] at h1
   have:(qs l V).length≤V.length:=List.length_filter_le _ _
   omega
  have hmem:∀ p,p < i→cL false (hG l) (p:Int)=true→∀ j∈jQ l (gE l) d p,j < l.length∧cL false (hG l) (j:Int)=true:=fun p hp hmp j hj=>by
   have:=rJ l hT d p (by omega) (by omega) hmp j hj
   exact ⟨by omega,this.2.2⟩
  cases hh:cL false (gE l) (i:Int) with
  | false =>
   have hv0:jQ l (gE l) (d + 1) i=[]:=by simp only [jQ,hh,Bool.false_eq_true,if_false]
   rw [hv0]
   refine ⟨[],aZ ?_,rfl,fun v hv8 hf _ e y=>?_,fun e _=>?_⟩
   ·simp only [dA.f,if_pos g,hh,Bool.false_eq_true,if_false]
    exact bA _
   ·rw [sU hT hi hh,sU hT hi hh]
    exact aCR hT hF v hv8 i hi hf e y
   ·simp only [HP]
    rw [sU hT hi hh]
  | true =>
   have hvv:jQ l (gE l) (d + 1) i=i :: (np (aC l (i:Int))).flatMap (fun p=>jQ l (gE l) d p.toNat):=by simp only [jQ,hh,if_true]
   rw [hvv] at hN hfr ⊢
   have hN2:=(List.nodup_cons.1 hN).2
   have hi1:=(List.nodup_cons.1 hN).1
   have hpp:=dD l hT i hi
   have hmp:=iL l hT i hi hm
   have hou:=vF (S.out i hi hm hh)
   have hK:=uI l hT i hi
   by_cases h2:(aC l (i:Int)).f0=2
   ·have hnp:np (aC l (i:Int))=[(aC l (i:Int)).f3]:=by unfold np parts;rw [if_pos (Or.inl h2)]
    have hqi:qu (aC l (i:Int)).f0=false:=by rw [h2];rfl
    have hF3:=fun v hv h=>(hF i hi v hv h).2 _ (by rw [hnp];exact List.mem_singleton.2 rfl:(aC l (i:Int)).f3∈np (aC l (i:Int)))
    have hwd:=zE hT hi (Or.inl h2) hw1 0 (by rw [hnp];first|exact Nat.one_pos|exact Nat.two_pos|exact Nat.one_lt_two)
    have hMe:=aBS hT hi hqi
    have hVe:=lF hT i hi
    have hw0:oC l (np (aC l (i:Int)))=1:=by unfold oC;rw [if_pos (by rw [hnp];first|exact Nat.one_pos|exact Nat.two_pos|exact Nat.one_lt_two)];exact hwd
    rw [hw0] at hMe hVe
    have hr0:rd (np (aC l (i:Int))) ((0:Nat):Int)=(aC l (i:Int)).f3:=by rw [hnp];rfl
    rw [hnp] at hpp hmp hN2 hi1 hfr ⊢
    have hb:=hpp _ (List.mem_singleton.2 rfl)
    have hm3:=hmp _ (List.mem_singleton.2 rfl)
    rw [hr0] at hwd
    obtain ⟨p,hp⟩:=Int.eq_ofNat_of_zero_le hb.1
    rw [hp] at hb hm3 hN2 hi1 hwd hr0 hF3 hfr ⊢
    simp only [List.flatMap_cons,List.flatMap_nil,List.append_nil,Int.toNat_natCast] at hN2 hi1 hF3 hfr ⊢
    have hqs:qs l (i :: jQ l (gE l) d p)=qs l (jQ l (gE l) d p):=by simp only [qs,List.filter_cons,hqi,Bool.false_eq_true,if_false]
    have hFp:∀ v,v < 8→F i v=false→F p v=false:=fun v hv h=>by
     rcases hF3 v hv h with h | ⟨h,_⟩
     ·exact h
     ·rw [hqi] at h;cases h
    rw [hqs] at hfr
    obtain ⟨q,e,P⟩:=ih p (by omega) (by omega) hm3 hwd hN2 (fun j hj=>by
     have h3:=hmem p (by omega) hm3 j (List.mem_filter.1 hj).1
     have h4:=iZ l hT j h3.1 (List.mem_filter.1 hj).2
     exact hFp _ (by omega) (hfr j hj)) (!tn)
    refine ⟨q,aZ ?_,by rw [hqs];exact P.map,fun v hv8 hf hnv e y=>?_,fun e he=>?_⟩
    ·simp only [dA.f,if_pos g,hh,if_true,if_pos h2,hp]
     exact e
    ·rw [hMe,hMe]
     refine zG (by omega) hqi (fun z hz=>?_)
     rw [hnp] at hz
     obtain rfl:z=0:=by simpa using hz
     rw [hr0,Int.toNat_natCast]
     exact P.far v hv8 (hFp v hv8 hf) (by rw [hqs] at hnv;exact hnv) e y
    ·have hc:∀ e,good ws e→(((MQ l i e == 1) != tn)=true↔((MQ l p e == 1) != !tn)=true):=fun e he=>by
      rw [hMe,zH h2 hw1 (by rw [hnp];rfl) hK (by rw [hr0,Int.toNat_natCast];exact sT S hv (by omega) hm3 hwd he),hr0,Int.toNat_natCast]
      cases (MQ l p e == 1) <;> cases tn <;> simp
     rw [mQ hc q (yO S I (hmem p (by omega) hm3) P.map) e he,P.hp e he,hVe,zH h2 hw1 (by rw [hnp];rfl) hK (by rw [hr0,Int.toNat_natCast];exact qC S hv (by omega) hm3 hwd he),hr0,Int.toNat_natCast]
     cases (VQ l p e == 1) <;> cases tn <;> simp
   by_cases hQ:qu (aC l (i:Int)).f0=true
   ·have hQ2:=(jN _).1 hQ
    have hqu:=iZ l hT i hi hQ
    have hnp:=hqu.2.2.1
    have hF3:=fun v hv h=>(hF i hi v hv h).2 _ (by rw [hnp];exact List.mem_singleton.2 rfl:(aC l (i:Int)).f3∈np (aC l (i:Int)))
    have hwd:=hqu.2.2.2.2
    have hMe:=zT hT hi hQ
    have hVe:=lF hT i hi
    have hr0:rd (np (aC l (i:Int))) ((0:Nat):Int)=(aC l (i:Int)).f3:=by rw [hnp];rfl
    rw [hnp] at hpp hmp hN2 hi1 hfr ⊢
    have hb:=hpp _ (List.mem_singleton.2 rfl)
    have hm3:=hmp _ (List.mem_singleton.2 rfl)
    obtain ⟨p,hp⟩:=Int.eq_ofNat_of_zero_le hb.1
    rw [hp] at hb hm3 hN2 hi1 hwd hr0 hF3 hfr hMe ⊢
    simp only [List.flatMap_cons,List.flatMap_nil,List.append_nil,Int.toNat_natCast] at hN2 hi1 hF3 hfr hMe ⊢
    have hqs:qs l (i :: jQ l (gE l) d p)=i :: qs l (jQ l (gE l) d p):=by simp only [qs,List.filter_cons,hQ,if_true]
    rw [hqs] at hfr
    obtain ⟨q,e,P⟩:=ih p (by omega) (by omega) hm3 hwd hN2 (fun j hj=>by
     have h3:=hmem p (by omega) hm3 j (List.mem_filter.1 hj).1
     have h4:=iZ l hT j h3.1 (List.mem_filter.1 hj).2
     rcases hF3 _ (by omega) (hfr j (List.mem_cons_of_mem _ hj)) with h | ⟨_,h⟩
     ·exact h
     ·have:i=j:=I.one i j hi h3.1 ⟨hm,hQ⟩ ⟨h3.2,(List.mem_filter.1 hj).2⟩ (by omega)
      rw [← this] at hj
      exact absurd (List.mem_filter.1 hj).1 hi1) tn
    have hlq:=len q _ P.map (mJ l hT d p (by omega) (by omega) hm3 hN2)
    refine ⟨[⟨((aC l (i:Int)).f0 == 19) != tn,(aC l (i:Int)).f2,(aC l (i:Int)).f4⟩] ++ q,aZ ?_,?_,fun v hv8 hf hnv e y=>?_,fun e he=>?_⟩
    ·simp only [dA.f,if_pos g,hh,if_true,if_neg h2,if_pos hQ2,hp]
     refine bC e ?_
     simp only [if_pos (show q.length < 5864062014804 by omega)]
     exact bA _
    ·rw [hqs]
     simp only [List.map_cons,List.map_append,List.map_nil,P.map]
     rfl
    ·rw [hMe,hMe]
     rw [hqs] at hnv
     refine P.far v hv8 ?_ (fun j hj=>hnv j (List.mem_cons_of_mem _ hj)) e y
     rcases hF3 v hv8 hf with h | ⟨_,h⟩
     ·exact h
     ·exact absurd h (hnv i (List.mem_cons_self ..))
    ·have hx:(0≤(aC l (i:Int)).f2∧(aC l (i:Int)).f2≤7)∧(1≤(aC l (i:Int)).f4∧(aC l (i:Int)).f4≤8)∧rd ws (aC l (i:Int)).f2=(aC l (i:Int)).f4:=⟨hqu.1,hqu.2.1,I.at_ i hi ⟨hm,hQ⟩⟩
     have step:∀ y:Nat,y < 2 ^ (aC l (i:Int)).f4.toNat→(HP q (fun e=>((MQ l i e == 1) != tn)=true) (e.set (aC l (i:Int)).f2.toNat (y:Int))↔((VQ l p (e.set (aC l (i:Int)).f2.toNat (y:Int)) == 1) != tn)=true):=fun y hy=>by
      have:=P.hp _ (lG (x:=⟨((aC l (i:Int)).f0 == 19) != tn,(aC l (i:Int)).f2,(aC l (i:Int)).f4⟩) he hx y hy)
      simp only [hMe]
      exact this
     have hV2:VQ l i e=nE (if ((aC l (i:Int)).f0 == 19)=true then (List.range (2 ^ (aC l (i:Int)).f4.toNat)).all fun y=>VQ l p (e.set (aC l (i:Int)).f2.toNat (y:Int)) == 1 else (List.range (2 ^ (aC l (i:Int)).f4.toNat)).any fun y=>VQ l p (e.set (aC l (i:Int)).f2.toNat (y:Int)) == 1):=by
      rw [hVe]
      unfold vS
      rw [if_neg (by omega),if_pos hQ]
      simp only [hr0,Int.toNat_natCast,beq_iff_eq]
     rw [hV2,qG,← aGB]
     show HP (_ :: q) _ e↔_
     simp only [HP]
     by_cases c:(((aC l (i:Int)).f0 == 19) != tn)=true
     ·rw [if_pos c,if_pos c]
      exact ⟨fun h y hy=>(step y hy).1 (h y hy),fun h y hy=>(step y hy).2 (h y hy)⟩
     ·rw [if_neg c,if_neg c]
      exact ⟨fun ⟨y,hy,h⟩=>⟨y,hy,(step y hy).1 h⟩,fun ⟨y,hy,h⟩=>⟨y,hy,(step y hy).2 h⟩⟩
   ·have h34:(aC l (i:Int)).f0=3∨(aC l (i:Int)).f0=4:=by
     rcases hou with h|h|h|h
     ·exact absurd h h2
     ·exact Or.inl h
     ·exact Or.inr h
     ·exact absurd h hQ
    have hqi:qu (aC l (i:Int)).f0=false:=by
     cases c:qu (aC l (i:Int)).f0 with
     | false=>rfl
     | true=>exact absurd c hQ
    have hnp:np (aC l (i:Int))=[(aC l (i:Int)).f3,(aC l (i:Int)).f4]:=by
     rcases gZ (aC l (i:Int)) with ⟨e,c⟩ | ⟨e,c⟩ | ⟨e,c⟩ | ⟨e,c1,c2,c3⟩
     ·rcases c with c|c|c
      ·omega
      ·omega
      ·exact absurd c hQ
     ·exact e
     ·omega
     ·omega
    have hF3:=fun v hv h=>(hF i hi v hv h).2 _ (by rw [hnp];simp:(aC l (i:Int)).f3∈np (aC l (i:Int)))
    have hF4:=fun v hv h=>(hF i hi v hv h).2 _ (by rw [hnp];simp:(aC l (i:Int)).f4∈np (aC l (i:Int)))
    have hwd:=zE hT hi (by omega) hw1 0 (by rw [hnp];first|exact Nat.one_pos|exact Nat.two_pos|exact Nat.one_lt_two)
    have hwd':=zE hT hi (by omega) hw1 1 (by rw [hnp];first|exact Nat.one_pos|exact Nat.two_pos|exact Nat.one_lt_two)
    have hMe:=aBS hT hi hqi
    have hVe:=lF hT i hi
    have hw0:oC l (np (aC l (i:Int)))=1:=by unfold oC;rw [if_pos (by rw [hnp];first|exact Nat.one_pos|exact Nat.two_pos|exact Nat.one_lt_two)];exact hwd
    rw [hw0] at hMe hVe
    have hr0:rd (np (aC l (i:Int))) ((0:Nat):Int)=(aC l (i:Int)).f3:=by rw [hnp];rfl
    have hr1:rd (np (aC l (i:Int))) ((1:Nat):Int)=(aC l (i:Int)).f4:=by rw [hnp];rfl
    have hn2:(np (aC l (i:Int))).length=2:=by rw [hnp];rfl
    rw [hnp] at hpp hmp hN2 hi1 hfr ⊢
    have hb:=hpp _ (List.mem_cons_self ..)
    have hm3:=hmp _ (List.mem_cons_self ..)
    have hb4:=hpp (aC l (i:Int)).f4 (by simp)
    have hm4:=hmp (aC l (i:Int)).f4 (by simp)
    rw [hr0] at hwd
    rw [hr1] at hwd'
    obtain ⟨p,hp⟩:=Int.eq_ofNat_of_zero_le hb.1
    obtain ⟨p',hp'⟩:=Int.eq_ofNat_of_zero_le hb4.1
    rw [hp] at hb hm3 hN2 hi1 hwd hr0 hF3 hfr ⊢
    rw [hp'] at hb4 hm4 hN2 hi1 hwd' hr1 hF4 hfr ⊢
    simp only [List.flatMap_cons,List.flatMap_nil,List.append_nil,Int.toNat_natCast] at hN2 hi1 hF3 hF4 hfr ⊢
    have hqs:qs l (i :: (jQ l (gE l) d p ++ jQ l (gE l) d p'))=qs l (jQ l (gE l) d p) ++ qs l (jQ l (gE l) d p'):=by simp only [qs,List.filter_cons,hqi,Bool.false_eq_true,if_false,List.filter_append]
    rw [hqs] at hfr
    have hNA:=List.nodup_append.1 hN2
    have hFp:∀ v,v < 8→F i v=false→F p v=false:=fun v hv h=>by
     rcases hF3 v hv h with h | ⟨h,_⟩
     ·exact h
     ·rw [hqi] at h;cases h
    have hFp':∀ v,v < 8→F i v=false→F p' v=false:=fun v hv h=>by
     rcases hF4 v hv h with h | ⟨h,_⟩
     ·exact h
     ·rw [hqi] at h;cases h
    have hmA:=hmem p (by omega) hm3
    have hmB:=hmem p' (by omega) hm4
    have v8:∀ V:List Nat,(∀ j∈V,j < l.length∧cL false (hG l) (j:Int)=true)→∀ j∈qs l V,(0≤(aC l (j:Int)).f2∧(aC l (j:Int)).f2.toNat < 8)∧j < l.length∧rQ l (hG l) j:=fun V hV j hj=>by
     have h3:=hV j (List.mem_filter.1 hj).1
     have h4:=iZ l hT j h3.1 (List.mem_filter.1 hj).2
     exact ⟨⟨h4.1.1,by omega⟩,h3.1,h3.2,(List.mem_filter.1 hj).2⟩
    obtain ⟨q,e,P⟩:=ih p (by omega) (by omega) hm3 hwd hNA.1 (fun j hj=>hFp _ (v8 _ hmA j hj).1.2 (hfr j (List.mem_append_left _ hj))) tn
    obtain ⟨q',e',P'⟩:=ih p' (by omega) (by omega) hm4 hwd' hNA.2.1 (fun j hj=>hFp' _ (v8 _ hmB j hj).1.2 (hfr j (List.mem_append_right _ hj))) tn
    have hlq:=len q _ P.map (mJ l hT d p (by omega) (by omega) hm3 hNA.1)
    have hlq':=len q' _ P'.map (mJ l hT d p' (by omega) (by omega) hm4 hNA.2.1)
    have apart:∀ j∈qs l (jQ l (gE l) d p),∀ j'∈qs l (jQ l (gE l) d p'),(aC l (j:Int)).f2≠(aC l (j':Int)).f2:=fun j hj j' hj' h=>by
     have a1:=v8 _ hmA j hj
     have a2:=v8 _ hmB j' hj'
     exact hNA.2.2 j (List.mem_filter.1 hj).1 j' (List.mem_filter.1 hj').1 (I.one j j' a1.2.1 a2.2.1 a1.2.2 a2.2.2 h)
    have from_:∀ (V:List Nat) (q:List eS),q.map (fun x=>(x.f1,x.f2))=(qs l V).map (qp l)→∀ x∈q,∃ j∈qs l V,(aC l (j:Int)).f2=x.f1:=fun V q h x hx=>by
     have h1:(x.f1,x.f2)∈(qs l V).map (qp l):=by rw [← h];exact List.mem_map.2 ⟨x,hx,rfl⟩
     obtain ⟨j,hj,e⟩:=List.mem_map.1 h1
     exact ⟨j,hj,(Prod.mk.inj e).1⟩
    refine ⟨q ++ q',aZ ?_,by rw [hqs];simp only [List.map_append,P.map,P'.map],fun v hv8 hf hnv e y=>?_,fun e he=>?_⟩
    ·have hn:¬ ((aC l (i:Int)).f0=19∨(aC l (i:Int)).f0=20):=by omega
     simp only [dA.f,if_pos g,hh,if_true,if_neg h2,if_neg hn,hp,hp']
     refine bC e (bC e' ?_)
     simp only [if_pos (show q.length + q'.length < 5864062014805 by omega)]
     exact bA _
    ·rw [hqs] at hnv
     rw [hMe,hMe]
     refine zG (by omega) hqi (fun z hz=>?_)
     rw [hn2] at hz
     rcases (show z=0∨z=1 by omega) with rfl|rfl
     ·rw [hr0,Int.toNat_natCast]
      exact P.far v hv8 (hFp v hv8 hf) (fun j hj=>hnv j (List.mem_append_left _ hj)) e y
     ·rw [hr1,Int.toNat_natCast]
      exact P'.far v hv8 (hFp' v hv8 hf) (fun j hj=>hnv j (List.mem_append_right _ hj)) e y
    ·have two:∀ (G:Nat→List Int→Int) (e:List Int),(G p e=0∨G p e=1)→(G p' e=0∨G p' e=1)→∀ z,z=vS (aC l (i:Int)) 1 (fun c e'=>G (rd (np (aC l (i:Int))) (c:Int)).toNat e') e→(((z == 1) != tn)=true↔cn (((aC l (i:Int)).f0 == 3) != tn) (((G p e == 1) != tn)=true) (((G p' e == 1) != tn)=true)):=fun G e g1 g2 z hz=>by
      rw [hz,aEV h34 hw1 hn2 hK (by rw [hr0,Int.toNat_natCast];exact g1) (by rw [hr1,Int.toNat_natCast];exact g2),hr0,hr1,Int.toNat_natCast,Int.toNat_natCast]
      have:=aDB ((aC l (i:Int)).f0 == 3) (G p e == 1) (G p' e == 1) tn
      simp only [beq_iff_eq] at this ⊢
      exact this
     rw [aAP (((aC l (i:Int)).f0 == 3) != tn) (yO S I hmA P.map) (yO S I hmB P'.map) (fun e he=>two (MQ l) e (sT S hv (by omega) hm3 hwd he) (sT S hv (by omega) hm4 hwd' he) _ (hMe e)) (fun x hx e y=>?_) (fun x hx e y=>?_) e he]
     ·rw [two (VQ l) e (qC S hv (by omega) hm3 hwd he) (qC S hv (by omega) hm4 hwd' he) _ (hVe e)]
      exact xH (P.hp e he) (P'.hp e he)
     ·obtain ⟨j,hj,e1⟩:=from_ _ _ P'.map x hx
      have a:=v8 _ hmB j hj
      rw [← e1,P.far _ a.1.2 (hFp _ a.1.2 (hfr j (List.mem_append_right _ hj))) (fun j' hj' h=>apart j' hj' j hj (by omega))]
     ·obtain ⟨j,hj,e1⟩:=from_ _ _ P.map x hx
      have a:=v8 _ hmA j hj
      rw [← e1,P'.far _ a.1.2 (hFp' _ a.1.2 (hfr j (List.mem_append_left _ hj))) (fun j' hj' h=>apart j hj j' hj' (by omega))]
end
theorem xI:∀ r l:List Bool,l.length=2 ^ r.length→mB (r.map not) (l.map not) = !mB r l:=by
 intro r
 induction r with
 | nil =>
  intro l hl
  match l,hl with
  | [x],_=>rfl
 | cons a r ih =>
  intro l hl
  have hl2:l.length=2 ^ (r.length + 1):=hl
  have hh:∀ h,gY (l.map not) h=(gY l h).map not:=fun h=>by
   unfold gY
   rw [List.length_map]
   cases h
   ·rw [if_neg (by decide),if_neg (by decide),List.map_take]
   ·rw [if_pos rfl,if_pos rfl,List.map_drop]
  rw [List.map_cons]
  simp only [mB]
  rw [hh,hh,ih _ (fO hl2 false),ih _ (fO hl2 true)]
  cases a <;> cases mB r (gY l false) <;> cases mB r (gY l true) <;> rfl
theorem wR (l:List Bool) (hl:l.length≤1048576):∀ k,l.length < k→eC.f k l=some (l.map not):=by
 intro k hk
 unfold eC.f
 have h:=rounds (fun k i=>eC.l0 k ((l.take i).map not) l (l.length:Int) (i:Int)) l.length (l.map not) ?_ ?_ k hk
 ·simpa using h
 ·intro k i hi
  simp only [eC.l0]
  rw [if_pos (by omega),if_pos (by omega),if_pos (by omega),if_pos (by simp;omega),yQ,eP i (by omega),oX l i false hi,List.map_append]
  rfl
 ·intro k
  simp only [eC.l0]
  rw [if_neg (by omega),List.take_length]
theorem aBA {l:List bL} (S:lT l) (h:Ev (fun k=>cI.f k l) true) {q:List eS} {r:List bL} {uK:List Int} (ok:mM q r uK) (eq:Ev (fun k=>dA.f k l (gE l) ((l.length:Int) - 1) false) q) (m:Nat) (hm:(m:Int)=mK l ((l.length:Int) - 1)) (hml:m < l.length) (er:Ev (fun k=>eZ.f k (oB l (m + 1))) r) :
  ∃ ws,good ws (List.replicate 8 0)∧(∀ j:Nat,j < l.length→cL false (hG l) (j:Int)=true→(aC l (j:Int)).f0=1→rd ws (aC l (j:Int)).f2=(aC l (j:Int)).f1)∧(∀ j:Nat,j < l.length→cL false (hG l) (j:Int)=true→qu (aC l (j:Int)).f0=true→rd ws (aC l (j:Int)).f2=(aC l (j:Int)).f4)∧(VQ l (l.length - 1) (List.replicate 8 0)=0∨VQ l (l.length - 1) (List.replicate 8 0)=1)∧(HQ r q (List.replicate 8 0)↔(VQ l (l.length - 1) (List.replicate 8 0) == 1)=true):=by
 have hT:=S.tm
 have hl8:=iF hT
 have hp:=fF hT
 obtain ⟨ws,_,I,hv⟩:=S.ws
 have hg:good ws (List.replicate 8 0):=⟨rfl,oI ws⟩
 have hroot:=iV l hp
 have hw1:(aC l ((l.length - 1:Nat):Int)).f1=1:=by rw [show ((l.length - 1:Nat):Int)=(l.length:Int) - 1 from by omega];exact S.root
 have hfree:=wP l S (by omega) h
 obtain ⟨q',e',P⟩:=aBB S I hv (aAL hT) l.length (l.length - 1) (by omega) (by omega) hroot hw1 (mZ S) (fun j hj=>by
  have h1:=rJ l hT l.length (l.length - 1) (by omega) (by omega) hroot j (List.mem_filter.1 hj).1
  have h2:=iZ l hT j (by omega) (List.mem_filter.1 hj).2
  exact hfree _ (by omega)) false
 rw [show ((l.length - 1:Nat):Int)=(l.length:Int) - 1 from by omega] at e'
 obtain rfl:q'=q:=mC e' eq
 refine ⟨ws,hg,hv,fun j hj hm hq=>I.at_ j hj ⟨hm,hq⟩,qC S hv (by omega) hroot hw1 hg,?_⟩
 have hT2:=rH l hT (m + 1) (by omega) (by omega)
 obtain ⟨r',pl,er',hTr,V⟩:=mF (oB l (m + 1)) hT2
 obtain rfl:r'=r:=mC er' er
 have em:m=nM l l.length (l.length - 1):=by
  unfold mK at hm
  rw [show ((l.length:Int) - 1).toNat=l.length - 1 from by omega] at hm
  omega
 have key:∀ e,zR r' e=MQ l (l.length - 1) e:=fun e=>by
  rw [← zV hTr ok.plain e,rN hT2 hTr V e,eJ]
  have h3:=sX hT2 (uM hT) (fun x=>x) (fun p=>p < m + 1) (fun p hp hP=>by
   rw [eJ] at hp
   have hb:∀ x:bL,mv (fun x=>x) x=x:=fun x=>by unfold mv;simp
   refine ⟨by rw [eJ];omega,by rw [hb,jP l (m + 1) p hp,jP l l.length p (by omega)],fun c hc=>?_⟩
   have:=dD (oB l (m + 1)) hT2 p (by rw [eJ];omega) c hc
   omega) m (by rw [eJ];omega) (by omega) e
  rw [Int.toNat_natCast] at h3
  unfold MQ
  rw [← em,h3]
  rfl
 rw [aFW]
 have h4:=P.hp (List.replicate 8 0) hg
 simp only [Bool.bne_false] at h4
 rw [← h4]
 simp only [key]
theorem FnDecide_pure:∀ (l0:List Int),(l0.length≤maxLen∧∀ x_∈l0,(Lit.int .u8 x_).wf=true)→∃ k,bR.f k l0=some true:=by
 intro b ⟨_,hb⟩
 refine vY ?_
 unfold bR.f
 simp only [jL.f,Option.bind_some]
 by_cases c:(b.length:Int) > 1048576
 ·simp only [decide_eq_true c,if_true]
  exact bA _
 simp only [decide_eq_false c,Bool.false_eq_true,if_false]
 obtain ⟨t,et,es,ht,hB⟩:=aBF b (by omega)
 have S:=uB (by omega) es
 have hT:=S.tm
 have hpos:=fF hT
 obtain ⟨q,r,uK,ef,ok,hs,hq,hr,hN,Q,eq,m,hm,hml,er⟩:=tG t es S
 obtain ⟨ws,hg,hv,hqv,hbit,hpx⟩:=aBA S es ok eq m hm hml er
 have hK:=uI r ok.term
 obtain ⟨n,hn⟩:=Int.eq_ofNat_of_zero_le (aDH ok)
 have hn8:n≤8:=by omega
 have htab:aBI q r=((n:Int),ones (sQ q r q.length 0 n (List.replicate 8 0)),true):=by
  unfold aBI
  rw [if_pos ⟨aDF ok,by omega⟩,hn,Int.toNat_natCast,aBG ok hK n]
 have hlen:=iQ q r q.length 0 n (List.replicate 8 0)
 have hsz:(ones (sQ q r q.length 0 n (List.replicate 8 0))).size≤1099511627776:=by
  rw [fD,hlen]
  have:=sD (n:=n) (by omega)
  omega
 have htok:=mY (n:=n) (by omega) hlen
 have hS:=aER q r (by omega) (by omega) hK
 rw [htab] at hS
 have hrl:=uA q (wC ok) q.length 0 (by omega)
 have hdec:=aDL q r (wC ok) q.length 0 (by omega) n hn (List.replicate 8 0)
 rw [List.drop_zero,hpx] at hdec
 have hD:pI (tZ q q.length 0) (n:Int) (ones (sQ q r q.length 0 n (List.replicate 8 0)))=(VQ t (t.length - 1) (List.replicate 8 0),true):=by
  unfold pI
  rw [htok,show (((tZ q q.length 0).length:Int) == (n:Int))=true from beq_iff_eq.2 (by omega),fT]
  have:nE (mB (tZ q q.length 0) (sQ q r q.length 0 n (List.replicate 8 0)))=VQ t (t.length - 1) (List.replicate 8 0):=by
   generalize mB (tZ q q.length 0) (sQ q r q.length 0 n (List.replicate 8 0))=z at hdec
   rcases hbit with h|h
   ·rw [h] at hdec ⊢
    cases z with
    | false=>rfl
    | true=>exact absurd (hdec.1 rfl) (by decide)
   ·rw [h] at hdec ⊢
    cases z with
    | true=>rfl
    | false=>exact absurd (hdec.2 rfl) (by decide)
  rw [← this]
  rfl
 have hH:Ev (fun k=>gM.f k t) (VQ t (t.length - 1) (List.replicate 8 0),true):=by
  unfold gM.f
  refine bC es ?_
  simp only [if_true]
  refine bC pE ?_
  refine bC (wS t hT ws hv hqv (by omega) (List.replicate 8 0) rfl hg.2 (VQ t (t.length - 1) (List.replicate 8 0)) (fun p pl hTp V=>?_)) (bA _)
  have hpp:=fF hTp
  have h1:=aCZ hTp (p.length - 1) (by omega) (List.replicate 8 0) rfl
  rw [rN hT hTp V,show ((p.length - 1:Nat):Int)=(p.length:Int) - 1 from by omega] at h1
  exact h1
 refine bC et (bC ef (bC hS (bC hH (bC (aGF q (by omega) (wC ok) (by omega)) ?_))))
 refine bC (jT _ (fun k hk=>jJ _ _ _ hsz k hk)) ?_
 rw [hD]
 simp only [bne_self_eq_false,Bool.false_eq_true,if_false,if_true]
 refine aZ ?_
 simp only [bR.j0,Bool.false_eq_true,if_false]
 obtain ⟨r2,n2,l2,e2,hn2,hr2,hl2⟩:=rR b (by omega)
 have hp2:2 ^ n2≤64:=Nat.le_trans (Nat.pow_le_pow_right (by decide) hn2) (by decide)
 have hz2:(ones l2).size≤1099511627776:=by rw [fD];omega
 have ht2:=mY (n:=n2) (by omega) hl2
 have hl3:(l2.map not).length=2 ^ n2:=by rw [List.length_map];exact hl2
 have hz3:(ones (l2.map not)).size≤1099511627776:=by rw [fD];omega
 have ht3:=mY (n:=n2) (by omega) hl3
 have d2:pI r2 (n2:Int) (ones l2)=(nE (mB r2 l2),true):=by
  unfold pI
  rw [ht2,show ((r2.length:Int) == (n2:Int))=true from beq_iff_eq.2 (by omega),fT]
  rfl
 have d3:pI (r2.map not) (n2:Int) (ones (l2.map not))=(nE (!mB r2 l2),true):=by
  unfold pI
  rw [ht3,show (((r2.map not).length:Int) == (n2:Int))=true from beq_iff_eq.2 (by rw [List.length_map];omega),fT,xI r2 l2 (by rw [hr2];exact hl2)]
  rfl
 have nt:aAZ (n2:Int) (ones l2)=((n2:Int),ones (l2.map not)):=by
  unfold aAZ
  rw [if_pos ht2,fT]
 refine bC e2 ?_
 refine bC (jT _ (fun k hk=>jJ r2 (n2:Int) (ones l2) hz2 k hk)) ?_
 refine bC (jT _ (fun k hk=>wR r2 (by omega) k hk)) ?_
 refine bC (jT _ (fun k hk=>nF (n2:Int) (ones l2) hz2 k hk)) ?_
 rw [nt]
 refine bC (jT _ (fun k hk=>jJ (r2.map not) (n2:Int) (ones (l2.map not)) hz3 k hk)) ?_
 refine bC (jT _ (fun k hk=>oU r2 (n2:Int) (ones l2) hz2 k hk)) ?_
 rw [d2,d3]
 have key:∀ z:Bool,(nE (!z) == wrap64 (1 - nE z))=true:=by intro z;cases z <;> decide +kernel
 simp only [if_true,key]
 exact bA _
end Go.Proofs.Ythipjoioicmcnaa.Pure
namespace Go.Proofs.Ythipjoioicmcnaa.fnDecide
open Go.ChangeShapes Go.WideShapes Go.ChangeAt Go.RowKit Go.Proofs.Ythipjoioicmcnaa.Open Go.Proofs.Ythipjoioicmcnaa.G Go.Proofs.YthipjoioicmcnaaW.PrintWords
open Go.ChangeMaps (open_string shut_string)
theorem own:ownKnob Try.prog.godebug=none:=by kernel_rfl
theorem aAQ:laidOutB Try.prog=true:=by kernel_rfl
theorem aDS (os:Os) (started:os.Started) (H:Type) (enc:TypeId × Value→H) :
  ReturnsInHanded {} Try.checked os 10 .any (Rows.fnDecideSpec.pre6 enc Try.prog Try.f10 Rows.fnDecideRow.domain false) (Rows.fnDecideSpec.post enc Try.prog Try.f10 false true false false):=by
 refine returnsInHanded_of_change (C:=Try.checked) own started (by kernel_rfl) Try.func10
  (ChangeSpec.witness6 (enc:=enc) (C:=Try.checked) false ⟨#[],#[.slice none 0 0],[]⟩ 8 (by kernel_rfl) (by kernel_rfl) (by kernel_rfl) (by kernel_rfl)) ?_
 intro W base args ds gs before hval0 hW hcnd _
 have hval:∀ (j:Nat) t v,Try.f10.params[j]? = some t→args[j]? = some v→Value.okWide Try.prog W .any base t v:=hval0
 have hW':=hW
 obtain ⟨p,q,hA0,hV,rfl,hfz,hnd⟩:=hW
 have hA:DataW.TrodAll enc Try.prog W 0 (fun _=>true) true Try.f10.params.toList args.toList ds p:=hA0
 rw [Try.params10] at hA hval
 obtain ⟨v0,vs0,d0,ds0,p0,q0,hargs,rfl,rfl,h0,r0⟩:=trodAll_cons hA
 obtain ⟨rfl,rfl,rfl⟩:=trodAll_nil r0
 obtain rfl:args=#[v0]:=by cases args;simp_all
 obtain ⟨rfl,rfl⟩:=trodVars_none hV
 have k0:=h0
 have lt0:∀ x∈p0,x.block < W.heap.size:=by obtain ⟨m,hm⟩:=k0;exact DataW.trod_lt m _ _ _ hm
 obtain ⟨fu0,hf0⟩:=h0
 obtain ⟨a0,len0,cap0,rfl⟩:=okWide_slice Try.underlying22 (hval 0 22 v0 rfl rfl)
 obtain ⟨l0,hk0,ok0⟩:=(sA (d:=(Kd.int .u8)) Try.underlying22 (by kernel_rfl) (wG Try.underlying5)) _ enc W 0 _ true fu0 _ _ hf0
 obtain ⟨A0,c0,hcs0,hc0,hr0⟩:=hk0
 simp [Value.cells] at hcs0
 obtain ⟨rfl,rfl,rfl⟩:=hcs0
 clear hA0 hval0
 obtain ⟨k,hk⟩:=Pure.FnDecide_pure l0 ok0
 refine (bR.calls k _ _ l0 true W hr0 hc0 rfl hk).mono fun e W' ⟨he,bel0⟩=>?_
 have bel:Below W.heap.size W W':=bel0
 subst he
 exact ⟨_,rfl,_,_,_,[],_,[],hW',trodAll_mk1 (shut_bool Try.underlying4 _),(trodAll_cons_mk (Below.trod aAQ (by kernel_rfl) (of_decide_eq_true (by kernel_rfl)) k0 bel lt0) trodAll_mk0),rfl,bel.frame _,fun h=>by cases h⟩
theorem over:Rows.fnDecideRow.holds Try.pinned (OpenSpec.ofChange Rows.fnDecideSpec) :=
 OpenClaim.holds_of_wide 10 Try.f10 rfl rfl rfl rfl rfl rfl rfl ⟨rfl,rfl,rfl,rfl,rfl⟩ rfl rfl rfl rfl rfl (by kernel_rfl) Try.func10 (by kernel_rfl)
  (of_decide_eq_true (by kernel_rfl)) (by unfold Func.isWrapper;first|(rw [if_pos (by decide +kernel)];kernel_rfl)|(rw [if_neg (by decide +kernel)];exact ⟨rfl,rfl⟩))
  (fun os started H enc _=>aDS os started H enc)
theorem proved:Rows.FnDecideSaid:=over
end Go.Proofs.Ythipjoioicmcnaa.fnDecide
namespace Go.Proofs.Ythipjoioicmcnaa
/-- The given statement. -/
theorem fnDecide_holds:Rows.FnDecideSaid:=fnDecide.proved
#print axioms fnDecide_holds
end Go.Proofs.Ythipjoioicmcnaa
