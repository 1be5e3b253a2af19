-- texts of this session, merged by a program of it (wip/gen/pack.py)
import Derived.Test.YthipjoioicmcnaaKFnDecide32
import Derived.Test.YthipjoioicmcnaaKFnDecide20
import Derived.Test.YthipjoioicmcnaaKFnDecide28
import Derived.Test.YthipjoioicmcnaaKFnDecide10
import Derived.Test.YthipjoioicmcnaaKFnDecide19
import Derived.Test.YthipjoioicmcnaaKFnDecide23
import Derived.Test.YthipjoioicmcnaaKFnDecide2
import Derived.Test.YthipjoioicmcnaaKFnDecide3
import Derived.Test.YthipjoioicmcnaaKFnDecide26
import Derived.Test.YthipjoioicmcnaaKFnDecide18
import Derived.Test.YthipjoioicmcnaaKFnDecide21
import Derived.Test.YthipjoioicmcnaaKFnDecide7
import Derived.Test.YthipjoioicmcnaaKFnDecide5
import Derived.Test.YthipjoioicmcnaaKFnDecide22
import Derived.Test.YthipjoioicmcnaaKFnDecide14
set_option linter.unusedVariables false
set_option linter.unusedSimpArgs false
set_option maxHeartbeats 80000000
set_option maxRecDepth 100000
namespace Go.Proofs.Ythipjoioicmcnaa.Pure
open Go.RowKit Go.Proofs.Ythipjoioicmcnaa.G Go.Proofs.YthipjoioicmcnaaW.PrintWords Go.Proofs.YthipjoioicmcnaaW.PrintLast Go.Proofs.YthipjoioicmcnaaW.PrintMore
def uE (L:List Bool) (m x:Nat):List Bool:=(L.drop (x * 2 ^ m)).take (2 ^ m)
theorem oA {L:List Bool} {w m x:Nat} (hL:L.length=2 ^ (w + m + 1)) (hx:x < 2 ^ w):uE (gY L false) m x=uE L m x:=by
 unfold uE gY
 have e:L.length / 2=2 ^ w * 2 ^ m:=by rw [hL,Nat.pow_succ,Nat.mul_div_cancel _ (by decide),Nat.pow_add]
 have h:x * 2 ^ m + 2 ^ m≤2 ^ w * 2 ^ m:=by
  have:=Nat.mul_le_mul_right (2 ^ m) (show x + 1≤2 ^ w from hx)
  rw [Nat.add_mul,Nat.one_mul] at this
  exact this
 rw [if_neg (by decide),e,List.drop_take,List.take_take,Nat.min_eq_left (by omega)]
theorem mV {L:List Bool} {w m x:Nat} (hL:L.length=2 ^ (w + m + 1)):uE (gY L true) m x=uE L m (2 ^ w + x):=by
 unfold uE gY
 have e:L.length / 2=2 ^ w * 2 ^ m:=by rw [hL,Nat.pow_succ,Nat.mul_div_cancel _ (by decide),Nat.pow_add]
 rw [if_pos rfl,e,List.drop_drop,Nat.add_mul]
theorem kK (w:Nat):2 ^ (w + 1)=2 ^ w + 2 ^ w:=by rw [Nat.pow_succ];omega
theorem aAF (r:List Bool) (m:Nat):∀ (w:Nat) (L:List Bool),L.length=2 ^ (w + m)→(mB (List.replicate w true ++ r) L=true↔∀ x,x < 2 ^ w→mB r (uE L m x)=true):=by
 intro w
 induction w with
 | zero =>
  intro L hL
  have e:uE L m 0=L:=by unfold uE;rw [Nat.zero_mul,List.drop_zero,List.take_of_length_le (by rw [hL];simp)]
  constructor
  ·intro h x hx
   obtain rfl:x=0:=by simpa using hx
   rw [e]
   exact h
  ·intro h
   have:=h 0 (by simp)
   rw [e] at this
   exact this
 | succ w ih =>
  intro L hL
  have hL2:L.length=2 ^ (w + m + 1):=by rw [hL];congr 1;omega
  rw [List.replicate_succ,List.cons_append]
  simp only [mB,if_true,Bool.and_eq_true]
  rw [ih _ (fO hL2 false),ih _ (fO hL2 true)]
  constructor
  ·rintro ⟨h1,h2⟩ x hx
   rcases Nat.lt_or_ge x (2 ^ w) with h|h
   ·rw [← oA hL2 h]
    exact h1 x h
   ·obtain ⟨y,rfl⟩:∃ y,x=2 ^ w + y:=⟨x - 2 ^ w,by omega⟩
    rw [← mV hL2]
    exact h2 y (by have:=kK w;omega)
  ·intro h
   refine ⟨fun x hx=>?_,fun x hx=>?_⟩
   ·rw [oA hL2 hx]
    exact h x (by have:=kK w;omega)
   ·rw [mV hL2]
    exact h _ (by have:=kK w;omega)
theorem aAG (r:List Bool) (m:Nat):∀ (w:Nat) (L:List Bool),L.length=2 ^ (w + m)→(mB (List.replicate w false ++ r) L=true↔∃ x,x < 2 ^ w∧mB r (uE L m x)=true):=by
 intro w
 induction w with
 | zero =>
  intro L hL
  have e:uE L m 0=L:=by unfold uE;rw [Nat.zero_mul,List.drop_zero,List.take_of_length_le (by rw [hL];simp)]
  constructor
  ·intro h
   exact ⟨0,by simp,by rw [e];exact h⟩
  ·rintro ⟨x,hx,h⟩
   obtain rfl:x=0:=by simpa using hx
   rw [e] at h
   exact h
 | succ w ih =>
  intro L hL
  have hL2:L.length=2 ^ (w + m + 1):=by rw [hL];congr 1;omega
  rw [List.replicate_succ,List.cons_append]
  simp only [mB,Bool.false_eq_true,if_false,Bool.or_eq_true]
  rw [ih _ (fO hL2 false),ih _ (fO hL2 true)]
  constructor
  ·rintro (⟨x,hx,h⟩ | ⟨x,hx,h⟩)
   ·exact ⟨x,by have:=kK w;omega,by rw [← oA hL2 hx];exact h⟩
   ·exact ⟨2 ^ w + x,by have:=kK w;omega,by rw [← mV hL2];exact h⟩
  ·rintro ⟨x,hx,h⟩
   rcases Nat.lt_or_ge x (2 ^ w) with h1|h1
   ·exact Or.inl ⟨x,h1,by rw [oA hL2 h1];exact h⟩
   ·obtain ⟨y,rfl⟩:∃ y,x=2 ^ w + y:=⟨x - 2 ^ w,by omega⟩
    exact Or.inr ⟨y,by have:=kK w;omega,by rw [mV hL2];exact h⟩
def xK (q:List eS) (i:Nat) (xs ys:List Int):Prop:=xs.length=ys.length∧∀ K:Nat,(∀ j:Nat,i≤j→j < q.length→(aV q (j:Int)).f1.toNat≠K)→xs[K]? = ys[K]?
theorem rS (q:List eS) (i:Nat) (xs:List Int):xK q i xs xs:=⟨rfl,fun _ _=>rfl⟩
theorem vX {q:List eS} {i:Nat} {xs ys zs:List Int} (h:xK q i xs ys) (h2:xK q i ys zs):xK q i xs zs:=⟨h.1.trans h2.1,fun K hK=>(h.2 K hK).trans (h2.2 K hK)⟩
theorem aAJ {q:List eS} {i:Nat} {xs ys:List Int} (h:xK q i xs ys) (v:Int):xK q (i + 1) (xs.set (aV q (i:Int)).f1.toNat v) (ys.set (aV q (i:Int)).f1.toNat v):=by
 refine ⟨by rw [List.length_set,List.length_set];exact h.1,fun K hK=>?_⟩
 rw [List.getElem?_set,List.getElem?_set,h.1]
 by_cases e:(aV q (i:Int)).f1.toNat=K
 ·rw [if_pos e,if_pos e]
 ·rw [if_neg e,if_neg e]
  refine h.2 K (fun j h1 h2=>?_)
  rcases Nat.eq_or_lt_of_le h1 with rfl|h3
  ·exact e
  ·exact hK j (by omega) h2
theorem xL {q:List eS} {i:Nat} (hi:i < q.length) {xs ys:List Int} {v:Int} (h:xK q (i + 1) xs (ys.set (aV q (i:Int)).f1.toNat v)):xK q i xs ys:=by
 refine ⟨by rw [h.1,List.length_set],fun K hK=>?_⟩
 rw [h.2 K (fun j h1 h2=>hK j (by omega) h2),List.getElem?_set,if_neg (hK i (Nat.le_refl _) hi)]
theorem aBK (q:List eS) (t:Nat):∀ d i,i + d=q.length→∀ a (xs ys:List Int),xK q i xs ys→pK q t d i a xs=pK q t d i a ys:=by
 intro d
 induction d with
 | zero =>
  intro i hi a xs ys h
  exact List.ext_getElem? fun K=>h.2 K (fun j h1 h2=>by omega)
 | succ d ih =>
  intro i hi a xs ys h
  simp only [pK]
  exact ih (i + 1) (by omega) _ _ _ (aAJ h _)
theorem zC (q:List eS) (t:Nat):∀ d i,i + d=q.length→∀ a (xs:List Int),xK q i (pK q t d i a xs) xs:=by
 intro d
 induction d with
 | zero=>intro i hi a xs;exact rS q i xs
 | succ d ih =>
  intro i hi a xs
  simp only [pK]
  exact xL (by omega) (ih (i + 1) (by omega) _ _)
theorem aBL (q:List eS) (hw:∀ j:Nat,j < q.length→1≤(aV q (j:Int)).f2∧(aV q (j:Int)).f2≤8) (t u:Nat):∀ d i,i + d=q.length→∀ (a:Nat) (xs:List Int),lY q d i=(a:Int)→t % 2 ^ a=u % 2 ^ a→pK q t d i a xs=pK q u d i a xs:=by
 intro d
 induction d with
 | zero=>intro i _ a xs _ _;rfl
 | succ d ih =>
  intro i hi a xs hs h
  have h1:=hw i (by omega)
  have h3:=rG q hw d (i + 1) (by omega)
  simp only [lY] at hs
  obtain ⟨w,hw2⟩:=Int.eq_ofNat_of_zero_le (show 0≤(aV q (i:Int)).f2 by omega)
  obtain ⟨b,rfl⟩:∃ b,a=b + w:=⟨a - w,by omega⟩
  simp only [pK,hw2,Int.toNat_natCast,Nat.add_sub_cancel]
  have e:t / 2 ^ b % 2 ^ w=u / 2 ^ b % 2 ^ w:=by
   rw [← Nat.mod_mul_right_div_self,← Nat.mod_mul_right_div_self,← Nat.pow_add,h]
  have e2:((t / 2 ^ b:Nat):Int) % (2:Int) ^ w=((u / 2 ^ b:Nat):Int) % (2:Int) ^ w:=by
   have:=congrArg (fun x:Nat=>(x:Int)) e
   push_cast at this ⊢
   exact this
  rw [e2]
  refine ih (i + 1) (by omega) b _ (by omega) ?_
  have hd:2 ^ b ∣ 2 ^ (b + w):=Nat.pow_dvd_pow 2 (by omega)
  rw [← Nat.mod_mod_of_dvd t hd,← Nat.mod_mod_of_dvd u hd,h]
def tZ (q:List eS):Nat→Nat→List Bool
 | 0,_=>[]
 | d + 1,i=>List.replicate (aV q (i:Int)).f2.toNat (aV q (i:Int)).f0 ++ tZ q d (i + 1)
noncomputable def zR (l:List bL) (xs:List Int):Int:=rd (gD l xs l.length) ((l.length:Int) - 1)
noncomputable def sQ (q:List eS) (l:List bL) (d i a:Nat) (xs:List Int):List Bool:=(List.range (2 ^ a)).map fun t=>zR l (pK q t d i a xs) == 1
theorem iQ (q:List eS) (l:List bL) (d i a:Nat) (xs:List Int):(sQ q l d i a xs).length=2 ^ a:=by simp [sQ]
theorem aAS (q:List eS) (hw:∀ j:Nat,j < q.length→1≤(aV q (j:Int)).f2∧(aV q (j:Int)).f2≤8) (l:List bL) (d i:Nat) (hi:i + (d + 1)=q.length) (w b:Nat) (hw2:(aV q (i:Int)).f2=(w:Int)) (hs:lY q d (i + 1)=(b:Int)) (xs:List Int) (x:Nat) (hx:x < 2 ^ w) :
  uE (sQ q l (d + 1) i (w + b) xs) b x=sQ q l d (i + 1) b (xs.set (aV q (i:Int)).f1.toNat (x:Int)):=by
 have hb:0 < 2 ^ b:=Nat.two_pow_pos b
 have hxb:x * 2 ^ b + 2 ^ b≤2 ^ (w + b):=by
  have:=Nat.mul_le_mul_right (2 ^ b) (show x + 1≤2 ^ w from hx)
  rw [Nat.add_mul,Nat.one_mul,← Nat.pow_add] at this
  exact this
 unfold uE
 apply List.ext_getElem
 ·rw [List.length_take,List.length_drop,iQ,iQ]
  omega
 intro t h1 h2
 rw [iQ] at h2
 rw [List.getElem_take,List.getElem_drop]
 simp only [sQ,List.getElem_map,List.getElem_range]
 congr 2
 simp only [pK,hw2,Int.toNat_natCast,Nat.add_sub_cancel_left]
 have e:(x * 2 ^ b + t) / 2 ^ b=x:=by
  rw [Nat.mul_comm,Nat.mul_add_div hb,Nat.div_eq_of_lt h2,Nat.add_zero]
 have e2:((x:Nat):Int) % (2:Int) ^ w=(x:Int):=Int.emod_eq_of_lt (Int.natCast_nonneg _) (by exact_mod_cast hx)
 rw [e,e2]
 exact aBL q hw _ _ d (i + 1) (by omega) b _ hs (by rw [Nat.mul_add_mod_self_right])
def sm (f:Nat→Nat):Nat→Nat
 | 0=>0
 | n + 1=>sm f n + f n
theorem vJ {f g:Nat→Nat}:∀ n,(∀ j,j < n→f j≤g j)→sm f n≤sm g n:=by
 intro n
 induction n with
 | zero=>intro _;exact Nat.le_refl _
 | succ n ih =>
  intro h
  have:=ih (fun j hj=>h j (by omega))
  have:=h n (by omega)
  simp only [sm]
  omega
theorem aGG {f g:Nat→Nat}:∀ n,(∀ j,j < n→f j=g j)→sm f n=sm g n:=by
 intro n
 induction n with
 | zero=>intro _;rfl
 | succ n ih =>
  intro h
  have:=ih (fun j hj=>h j (by omega))
  have:=h n (by omega)
  simp only [sm]
  omega
theorem aEK (f g:Nat→Nat):∀ n,sm (fun j=>f j + g j) n=sm f n + sm g n:=by
 intro n
 induction n with
 | zero=>rfl
 | succ n ih=>simp only [sm,ih];omega
theorem rF {f:Nat→Nat}:∀ n,(∀ j,j < n→f j=0)→sm f n=0:=by
 intro n
 induction n with
 | zero=>intro _;rfl
 | succ n ih =>
  intro h
  have:=ih (fun j hj=>h j (by omega))
  have:=h n (by omega)
  simp only [sm]
  omega
theorem aGH {f:Nat→Nat}:∀ n j,j < n→f j≤sm f n:=by
 intro n
 induction n with
 | zero=>intro j h;omega
 | succ n ih =>
  intro j h
  simp only [sm]
  rcases Nat.lt_succ_iff_lt_or_eq.1 h with h1|rfl
  ·have:=ih j h1;omega
  ·omega
theorem aEL (a c:Nat):∀ n,sm (fun j=>if a=j then c else 0) n=if a < n then c else 0:=by
 intro n
 induction n with
 | zero=>rfl
 | succ n ih =>
  simp only [sm,ih]
  by_cases h:a < n
  ·rw [if_pos h,if_neg (by omega),if_pos (by omega)];rfl
  ·by_cases h2:a=n
   ·rw [if_neg h,if_pos h2,if_pos (by omega)];omega
   ·rw [if_neg h,if_neg h2,if_neg (by omega)]
theorem lI (f:Nat→Nat) (n:Nat):∀ V:List Nat,(∀ j∈V,j < n)→(V.map f).sum=sm (fun j=>V.count j * f j) n:=by
 intro V
 induction V with
 | nil=>intro _;rw [rF];rfl;intro j _;simp
 | cons a V ih =>
  intro h
  have ha:=h a (List.mem_cons_self ..)
  rw [List.map_cons,List.sum_cons,ih (fun j hj=>h j (List.mem_cons_of_mem _ hj))]
  have e:sm (fun j=>(a :: V).count j * f j) n=sm (fun j=>V.count j * f j + (if a=j then f a else 0)) n:=aGG n (fun j _=>by
   rw [List.count_cons]
   by_cases he:a=j
   ·subst he
    simp [Nat.add_mul]
   ·simp [he])
  rw [e,aEK,aEL,if_pos ha]
  omega
def jQ (l:List bL) (H:List Bool):Nat→Nat→List Nat
 | 0,_=>[]
 | d + 1,i=>if cL false H (i:Int)=true then i :: (np (aC l (i:Int))).flatMap (fun p=>jQ l H d p.toNat) else []
theorem rJ (l:List bL) (hT:fN l=true):∀ d i,i < d→i < l.length→cL false (hG l) (i:Int)=true→∀ j∈jQ l (gE l) d i,j≤i∧cL false (gE l) (j:Int)=true∧cL false (hG l) (j:Int)=true:=by
 intro d
 induction d with
 | zero=>intro i h;omega
 | succ d ih =>
  intro i hd hi hm j hj
  simp only [jQ] at hj
  split at hj
  ·next hh =>
   rcases List.mem_cons.1 hj with rfl|hj
   ·exact ⟨Nat.le_refl _,hh,hm⟩
   ·obtain ⟨p,hp,hj⟩:=List.mem_flatMap.1 hj
    have hb:=dD l hT i hi p hp
    have hmp:=iL l hT i hi hm p hp
    obtain ⟨q,rfl⟩:=Int.eq_ofNat_of_zero_le hb.1
    have:=ih q (by omega) (by omega) hmp j (by simpa using hj)
    exact ⟨by omega,this.2⟩
  ·cases hj
theorem sM (l:List bL) (hT:fN l=true) (p:Nat) (hp:cL false (gE l) (p:Int)=true):∀ d i,i < d→i < l.length→cL false (gE l) (i:Int)=true →
  (jQ l (gE l) d i).count p=(if p=i then 1 else 0) + ((jQ l (gE l) d i).map fun j:Nat=>(np (aC l (j:Int))).count (p:Int)).sum:=by
 intro d
 induction d with
 | zero=>intro i h;omega
 | succ d ih =>
  intro i hd hi hh
  simp only [jQ,if_pos hh]
  have hb:=dD l hT i hi
  have key:∀ ps:List Int,(∀ x∈ps,0≤x∧x≤(i:Int) - 1)→(ps.flatMap fun x=>jQ l (gE l) d x.toNat).count p=ps.count (p:Int) + ((ps.flatMap fun x=>jQ l (gE l) d x.toNat).map fun j:Nat=>(np (aC l (j:Int))).count (p:Int)).sum:=by
   intro ps
   induction ps with
   | nil=>intro _;rfl
   | cons x ps ih2 =>
    intro hx
    have hx0:=hx x (List.mem_cons_self ..)
    have:=ih2 (fun y hy=>hx y (List.mem_cons_of_mem _ hy))
    rw [List.flatMap_cons,List.count_append,List.map_append,List.sum_append,this,List.count_cons]
    obtain ⟨q,rfl⟩:=Int.eq_ofNat_of_zero_le hx0.1
    rw [Int.toNat_natCast]
    by_cases hq:cL false (gE l) (q:Int)=true
    ·rw [ih q (by omega) (by omega) hq]
     by_cases e:p=q
     ·subst e
      simp
      omega
     ·rw [if_neg e]
      have:¬ ((q:Int) == (p:Int))=true:=by simp;omega
      rw [if_neg this]
      omega
    ·have hz:jQ l (gE l) d q=[]:=by
      cases d with
      | zero=>rfl
      | succ d=>simp only [jQ,if_neg hq]
     rw [hz]
     have:¬ ((q:Int) == (p:Int))=true:=fun e=>by
      have e2:=beq_iff_eq.1 e
      obtain rfl:q=p:=by omega
      exact hq hp
     rw [if_neg this]
     simp
  rw [List.count_cons,List.map_cons,List.sum_cons,key _ hb]
  by_cases e:p=i
  ·subst e
   simp
   omega
  ·rw [if_neg e,if_neg (by simp;omega)]
   omega
theorem yD (ps:List Int):∀ (ms:List Bool) (j:Nat),(wT ms ps).getD j false=true→ms.getD j false=true∨∃ p∈ps,p.toNat=j:=by
 induction ps with
 | nil=>intro ms j h;exact Or.inl h
 | cons q ps ih =>
  intro ms j h
  rcases ih (ms.set q.toNat true) j h with h1 | ⟨p,hp,e⟩
  ·by_cases e:q.toNat=j
   ·exact Or.inr ⟨q,List.mem_cons_self ..,e⟩
   ·rw [List.getD_eq_getElem?_getD,List.getElem?_set,if_neg e,← List.getD_eq_getElem?_getD] at h1
    exact Or.inl h1
  ·exact Or.inr ⟨p,List.mem_cons_of_mem _ hp,e⟩
theorem yS (l:List bL) (hT:fN l=true):∀ d (ms:List Bool) (j:Nat),d≤l.length→(pF l d ms).getD j false=true→ms.getD j false=true∨∃ i,i < d∧(pF l d ms).getD i false=true∧∃ p∈np (aC l (i:Int)),p.toNat=j:=by
 intro d
 induction d with
 | zero=>intro ms j _ h;exact Or.inl h
 | succ d ih =>
  intro ms j hd h
  unfold pF at h ⊢
  rcases ih _ j (by omega) h with h1 | ⟨i,hi,h1,h2⟩
  ·split at h1
   ·next hc =>
    rcases yD _ _ _ h1 with h2|h2
    ·exact Or.inl h2
    ·right
     refine ⟨d,by omega,?_,h2⟩
     rw [if_pos hc]
     refine mT l d _ _ (oL _ _ _ ?_)
     rw [fK] at hc
     exact hc
   ·exact Or.inl h1
  ·exact Or.inr ⟨i,by omega,h1,h2⟩
theorem vC (l:List bL) (hT:fN l=true) (p:Nat) (hp:cL false (hG l) (p:Int)=true) (hne:p≠l.length - 1):∃ j,p < j∧j < l.length∧cL false (hG l) (j:Int)=true∧(p:Int)∈np (aC l (j:Int)):=by
 rw [fK] at hp
 rcases yS l hT l.length (oM l.length) p (Nat.le_refl _) hp with h | ⟨i,hi,h1,q,hq,e⟩
 ·exfalso
  unfold oM at h
  rw [List.getD_eq_getElem?_getD,List.getElem?_set,if_neg (by omega),List.getElem?_replicate] at h
  split at h <;> simp at h
 ·have hb:=dD l hT i hi q hq
  have e2:(p:Int)=q:=by omega
  refine ⟨i,by omega,hi,by rw [fK];exact h1,by rw [e2];exact hq⟩
theorem xV (l:List bL) (j:Nat) (hj:j < l.length):cL false (gE l) (j:Int)=true↔(qu (aC l (j:Int)).f0=true∨∃ p∈np (aC l (j:Int)),cL false (oJ l j) p=true):=by
 rw [qP l j l.length hj,Bool.or_eq_true,List.any_eq_true]
theorem aBY (l:List bL) (hT:fN l=true) (j p:Nat) (hj:j < l.length) (hp:(p:Int)∈np (aC l (j:Int))) (h:cL false (gE l) (p:Int)=true):cL false (gE l) (j:Int)=true:=by
 have hb:=dD l hT j hj _ hp
 exact (xV l j hj).2 (Or.inr ⟨_,hp,by rw [xU l p j l.length (by omega) (by omega)];exact h⟩)
theorem aAE (l:List bL) (M:List Bool) (p:Nat):∀ i,pH l M i p=sm (fun j=>if cL false M (j:Int)=true then (np (aC l (j:Int))).count (p:Int) else 0) i:=by
 intro i
 induction i with
 | zero=>rfl
 | succ i ih=>simp only [pH,sm,ih]
abbrev lZ (l:List bL):List Nat:=jQ l (gE l) l.length (l.length - 1)
theorem kY {l:List bL} (hT:fN l=true) {j:Nat} (h:j∈lZ l):j < l.length∧j≤l.length - 1∧cL false (gE l) (j:Int)=true∧cL false (hG l) (j:Int)=true:=by
 have hp:=fF hT
 have:=rJ l hT l.length (l.length - 1) (by omega) (by omega) (iV l hp) j h
 exact ⟨by omega,this⟩
theorem sL {l:List bL} (hT:fN l=true) {j:Nat} (h:j∈lZ l):cL false (gE l) ((l.length - 1:Nat):Int)=true:=by
 have hp:=fF hT
 obtain ⟨d,hd⟩:∃ d,l.length=d + 1:=⟨l.length - 1,by omega⟩
 cases hc:cL false (gE l) ((l.length - 1:Nat):Int) with
 | true=>rfl
 | false =>
  have:lZ l=[]:=by
   unfold lZ
   generalize l.length - 1=r at hc
   rw [hd]
   simp only [jQ,hc,Bool.false_eq_true,if_false]
  rw [this] at h
  cases h
theorem nK {l:List bL} (hT:fN l=true) {p:Nat} (h:p∈lZ l):(lZ l).count p=(if p=l.length - 1 then 1 else 0) + sm (fun j=>(lZ l).count j * (np (aC l (j:Int))).count (p:Int)) l.length:=by
 have hp:=fF hT
 rw [← lI (fun j=>(np (aC l (j:Int))).count (p:Int)) l.length (lZ l) (fun j hj=>(kY hT hj).1)]
 exact sM l hT p (kY hT h).2.2.1 l.length (l.length - 1) (by omega) (by omega) (sL hT h)
theorem tP {l:List bL} (hT:fN l=true) {j p:Nat} (hj:j < l.length) (h:j≤p):(np (aC l (j:Int))).count (p:Int)=0:=by
 rw [List.count_eq_zero]
 intro hm
 have:=dD l hT j hj _ hm
 omega
theorem aEX {l:List bL} (S:lT l):∀ p,(lZ l).count p≤1:=by
 have hT:=S.tm
 have main:∀ d p,l.length - 1≤p + d→(lZ l).count p≤1:=by
  intro d
  induction d with
  | zero =>
   intro p hp
   by_cases hV:p∈lZ l
   ·have hm:=kY hT hV
    obtain rfl:p=l.length - 1:=by omega
    rw [nK hT hV,if_pos rfl,rF _ (fun j hj=>by rw [tP hT hj (by omega)];rfl)]
    exact Nat.le_refl _
   ·rw [List.count_eq_zero.2 hV]
    omega
  | succ d ih =>
   intro p hp
   by_cases hV:p∈lZ l
   ·have hm:=kY hT hV
    by_cases e:p=l.length - 1
    ·rw [nK hT hV,if_pos e,rF _ (fun j hj=>by rw [tP hT hj (by omega)];rfl)]
     exact Nat.le_refl _
    ·rw [nK hT hV,if_neg e,Nat.zero_add]
     refine Nat.le_trans (vJ l.length (fun j hj=>?_)) (Nat.le_trans (Nat.le_of_eq (aAE l (hG l) p l.length).symm) (S.use p hm.1 hm.2.2.2 hm.2.2.1))
     by_cases hc:j≤p
     ·rw [tP hT hj hc]
      exact Nat.zero_le _
     ·by_cases hjV:j∈lZ l
      ·rw [if_pos (kY hT hjV).2.2.2]
       have h1:=ih j (by omega)
       have:=Nat.mul_le_mul_right ((np (aC l (j:Int))).count (p:Int)) h1
       rw [Nat.one_mul] at this
       exact this
      ·rw [List.count_eq_zero.2 hjV,Nat.zero_mul]
       exact Nat.zero_le _
   ·rw [List.count_eq_zero.2 hV]
    omega
 exact fun p=>main l.length p (by omega)
theorem mZ {l:List bL} (S:lT l):(lZ l).Nodup:=List.nodup_iff_count.2 (aEX S)
theorem aEW {l:List bL} (hT:fN l=true):∀ d p,l.length - 1≤p + d→p < l.length→cL false (hG l) (p:Int)=true→cL false (gE l) (p:Int)=true→p∈lZ l:=by
 have root:cL false (gE l) ((l.length - 1:Nat):Int)=true→l.length - 1∈lZ l:=fun h=>by
  have hp:=fF hT
  obtain ⟨d,hd⟩:∃ d,l.length=d + 1:=⟨l.length - 1,by omega⟩
  unfold lZ
  generalize l.length - 1=r at h
  rw [hd]
  simp only [jQ,h,if_true]
  exact List.mem_cons_self ..
 intro d
 induction d with
 | zero =>
  intro p h1 h2 hm hh
  obtain rfl:p=l.length - 1:=by omega
  exact root hh
 | succ d ih =>
  intro p h1 h2 hm hh
  by_cases e:p=l.length - 1
  ·subst e
   exact root hh
  ·obtain ⟨j,hj1,hj2,hjm,hjp⟩:=vC l hT p hm e
   have hjh:=aBY l hT j p hj2 hjp hh
   have hjV:=ih j (by omega) hj2 hjm hjh
   have hroot:=sL hT hjV
   have hpos:=fF hT
   have hc:=sM l hT p hh l.length (l.length - 1) (by omega) (by omega) hroot
   rw [if_neg e,Nat.zero_add,lI _ l.length (lZ l) (fun j hj=>(kY hT hj).1)] at hc
   have hg:=aGH (f:=fun j=>(lZ l).count j * (np (aC l (j:Int))).count (p:Int)) l.length j hj2
   have h3:0 < (lZ l).count j:=List.count_pos_iff.2 hjV
   have h4:0 < (np (aC l (j:Int))).count (p:Int):=List.count_pos_iff.2 hjp
   have h5:=Nat.mul_pos h3 h4
   exact List.count_pos_iff.1 (by rw [hc];omega)
abbrev qp (l:List bL) (j:Nat):Int × Int:=((aC l (j:Int)).f2,(aC l (j:Int)).f4)
abbrev qs (l:List bL) (V:List Nat):List Nat:=V.filter fun j=>qu (aC l (j:Int)).f0
theorem mJ (l:List bL) (hT:fN l=true) (d i:Nat) (hd:i < d) (hi:i < l.length) (hm:cL false (hG l) (i:Int)=true) (hN:(jQ l (gE l) d i).Nodup):(jQ l (gE l) d i).length≤l.length:=by
 have h:=lI (fun _=>1) l.length (jQ l (gE l) d i) (fun j hj=>by have:=rJ l hT d i hd hi hm j hj;omega)
 have h1:((jQ l (gE l) d i).map fun _=>1).sum=(jQ l (gE l) d i).length:=by
  generalize jQ l (gE l) d i=V
  induction V with
  | nil=>rfl
  | cons a V ih=>rw [List.map_cons,List.sum_cons,List.length_cons,ih];omega
 have h2:=vJ (f:=fun j=>(jQ l (gE l) d i).count j * 1) (g:=fun _=>1) l.length (fun j _=>by have:=List.nodup_iff_count.1 hN j;omega)
 have h3:∀ n,sm (fun _=>1) n=n:=by
  intro n
  induction n with
  | zero=>rfl
  | succ n ih=>simp only [sm,ih]
 rw [h3] at h2
 omega
theorem aBQ {l:List bL} (S:lT l):∀ d i,i < d→i < l.length→cL false (hG l) (i:Int)=true→(jQ l (gE l) d i).Nodup→∀ tn:Bool,∃ q,Ev (fun k=>dA.f k l (gE l) (i:Int) tn) q∧q.map (fun x=>(x.f1,x.f2))=(qs l (jQ l (gE l) d i)).map (qp l):=by
 have hT:=S.tm
 have hl8:=iF hT
 have hH:(gE l).length=l.length:=iB l l.length
 intro d
 induction d with
 | zero=>intro i h;omega
 | succ d ih =>
  intro i hd hi hm hN tn
  have g:(0≤(i:Int)∧(i:Int) < (l.length:Int))∧(i:Int) < ((gE l).length:Int):=by omega
  have len:∀ (q:List eS) (V:List Nat),q.map (fun x=>(x.f1,x.f2))=(qs l V).map (qp l)→V.length≤l.length→q.length≤80:=fun q V e hV=>by
   have h1:=congrArg List.length e
   rw [List.length_map,List.length_map] at h1
   have:(qs l V).length≤V.length:=List.length_filter_le _ _
   omega
  cases hh:cL false (gE l) (i:Int) with
  | false =>
   refine ⟨[],aZ ?_,?_⟩
   ·simp only [dA.f,if_pos g,hh,Bool.false_eq_true,if_false]
    exact bA _
   ·simp only [jQ,hh,Bool.false_eq_true,if_false]
    rfl
  | true =>
   have hv:jQ l (gE l) (d + 1) i=i :: (np (aC l (i:Int))).flatMap (fun p=>jQ l (gE l) d p.toNat):=by simp only [jQ,hh,if_true]
   rw [hv] at hN ⊢
   have hN2:=(List.nodup_cons.1 hN).2
   have hpp:=dD l hT i hi
   have hmp:=iL l hT i hi hm
   have hou:=vF (S.out i hi hm hh)
   by_cases h2:(aC l (i:Int)).f0=2
   ·have hnp:np (aC l (i:Int))=[(aC l (i:Int)).f3]:=by unfold np parts;rw [if_pos (Or.inl h2)]
    rw [hnp] at hpp hmp hN2 ⊢
    have hb:=hpp _ (List.mem_singleton.2 rfl)
    have hm3:=hmp _ (List.mem_singleton.2 rfl)
    obtain ⟨p,hp⟩:=Int.eq_ofNat_of_zero_le hb.1
    rw [hp] at hb hm3 hN2 ⊢
    simp only [List.flatMap_cons,List.flatMap_nil,List.append_nil,Int.toNat_natCast] at hN2 ⊢
    obtain ⟨q,e,hq⟩:=ih p (by omega) (by omega) hm3 hN2 (!tn)
    refine ⟨q,aZ ?_,?_⟩
    ·simp only [dA.f,if_pos g,hh,if_true,if_pos h2,hp]
     exact e
    ·rw [hq]
     have:qu (aC l (i:Int)).f0=false:=by rw [h2];rfl
     simp only [qs,List.filter_cons,this,Bool.false_eq_true,if_false]
   by_cases hQ:qu (aC l (i:Int)).f0=true
   ·have hQ2:=(jN _).1 hQ
    have hnp:=(iZ l hT i hi hQ).2.2.1
    rw [hnp] at hpp hmp hN2 ⊢
    have hb:=hpp _ (List.mem_singleton.2 rfl)
    have hm3:=hmp _ (List.mem_singleton.2 rfl)
    obtain ⟨p,hp⟩:=Int.eq_ofNat_of_zero_le hb.1
    rw [hp] at hb hm3 hN2 ⊢
    simp only [List.flatMap_cons,List.flatMap_nil,List.append_nil,Int.toNat_natCast] at hN2 ⊢
    obtain ⟨q,e,hq⟩:=ih p (by omega) (by omega) hm3 hN2 tn
    have hlq:=len q _ hq (mJ l hT d p (by omega) (by omega) hm3 hN2)
    refine ⟨[⟨((aC l (i:Int)).f0 == 19) != tn,(aC l (i:Int)).f2,(aC l (i:Int)).f4⟩] ++ q,aZ ?_,?_⟩
    ·simp only [dA.f,if_pos g,hh,if_true,if_neg h2,if_pos hQ2,hp]
     refine bC e ?_
     simp only [if_pos (show q.length < 5864062014804 by omega)]
     exact bA _
    ·simp only [qs,List.filter_cons,hQ,if_true,List.map_cons,List.map_append,List.map_nil,hq]
     rfl
   ·have h34:(aC l (i:Int)).f0=3∨(aC l (i:Int)).f0=4:=by
     rcases hou with h|h|h|h
     ·exact absurd h h2
     ·exact Or.inl h
     ·exact Or.inr h
     ·exact absurd h hQ
    have hnp:np (aC l (i:Int))=[(aC l (i:Int)).f3,(aC l (i:Int)).f4]:=by
     rcases gZ (aC l (i:Int)) with ⟨e,c⟩ | ⟨e,c⟩ | ⟨e,c⟩ | ⟨e,c1,c2,c3⟩
     ·rcases c with c|c|c
      ·omega
      ·omega
      ·exact absurd c hQ
     ·exact e
     ·omega
     ·omega
    rw [hnp] at hpp hmp hN2 ⊢
    have hb:=hpp _ (List.mem_cons_self ..)
    have hm3:=hmp _ (List.mem_cons_self ..)
    have hb4:=hpp (aC l (i:Int)).f4 (by simp)
    have hm4:=hmp (aC l (i:Int)).f4 (by simp)
    obtain ⟨p,hp⟩:=Int.eq_ofNat_of_zero_le hb.1
    obtain ⟨p',hp'⟩:=Int.eq_ofNat_of_zero_le hb4.1
    rw [hp] at hb hm3 hN2 ⊢
    rw [hp'] at hb4 hm4 hN2 ⊢
    simp only [List.flatMap_cons,List.flatMap_nil,List.append_nil,Int.toNat_natCast] at hN2 ⊢
    have hNA:=List.nodup_append.1 hN2
    obtain ⟨q,e,hq⟩:=ih p (by omega) (by omega) hm3 hNA.1 tn
    obtain ⟨q',e',hq'⟩:=ih p' (by omega) (by omega) hm4 hNA.2.1 tn
    have hlq:=len q _ hq (mJ l hT d p (by omega) (by omega) hm3 hNA.1)
    have hlq':=len q' _ hq' (mJ l hT d p' (by omega) (by omega) hm4 hNA.2.1)
    refine ⟨q ++ q',aZ ?_,?_⟩
    ·have hn:¬ ((aC l (i:Int)).f0=19∨(aC l (i:Int)).f0=20):=by omega
     simp only [dA.f,if_pos g,hh,if_true,if_neg h2,if_neg hn,hp,hp']
     refine bC e (bC e' ?_)
     simp only [if_pos (show q.length + q'.length < 5864062014805 by omega)]
     exact bA _
    ·simp only [qs,List.filter_cons,hQ,Bool.false_eq_true,if_false,List.filter_append,List.map_append,hq,hq']
structure sV (l:List bL) (q:List eS):Prop where
 map:q.map (fun x=>(x.f1,x.f2))=(qs l (lZ l)).map (qp l)
 nd:(qs l (lZ l)).Nodup
 mem:∀ j,j∈qs l (lZ l)↔j < l.length∧rQ l (hG l) j
theorem aGE {l:List bL} (S:lT l):∃ q,Ev (fun k=>dA.f k l (gE l) ((l.length:Int) - 1) false) q∧sV l q:=by
 have hT:=S.tm
 have hp:=fF hT
 obtain ⟨q,e,h⟩:=aBQ S l.length (l.length - 1) (by omega) (by omega) (iV l hp) (mZ S) false
 refine ⟨q,by rw [show ((l.length:Int) - 1)=((l.length - 1:Nat):Int) from by omega];exact e,h,List.Nodup.sublist List.filter_sublist (mZ S),fun j=>?_⟩
 rw [List.mem_filter]
 constructor
 ·rintro ⟨h1,h2⟩
  have:=kY hT h1
  exact ⟨this.1,this.2.2.2,h2⟩
 ·rintro ⟨h1,h2,h3⟩
  exact ⟨aEW hT l.length j (by omega) h1 h2 ((xV l j h1).2 (Or.inl h3)),h3⟩
structure mM (q:List eS) (l:List bL) (ws:List Int):Prop where
 vars:∀ j:Nat,j < q.length→(0≤(aV q (j:Int)).f1∧(aV q (j:Int)).f1≤7)∧(1≤(aV q (j:Int)).f2∧(aV q (j:Int)).f2≤8)∧rd ws (aV q (j:Int)).f1=(aV q (j:Int)).f2
 fw:rX q q.length 0 (List.replicate 8 0)=some ws
 term:fN l=true
 root:(aC l ((l.length:Int) - 1)).f1=1
 fits:vZ l (pF l l.length (oM l.length)) ws l.length 0=true
theorem aFS {q:List eS} {l:List bL} (h:wB q l=true):∃ ws,mM q l ws:=by
 unfold wB at h
 cases hw:rX q q.length 0 (List.replicate 8 0) with
 | none =>
  rw [hw] at h
  cases h
 | some ws =>
  rw [hw] at h
  simp only [Bool.and_eq_true,beq_iff_eq] at h
  exact ⟨ws,fun j hj=>xR q q.length 0 _ ws rfl hw j (by omega) (by omega),hw,h.1,h.2.1,h.2.2⟩
theorem mM.plain {q:List eS} {l:List bL} {ws:List Int} (h:mM q l ws):∀ j:Nat,j < l.length→qu (aC l (j:Int)).f0=false:=fun j hj=>xM l _ ws l.length 0 h.fits j (by omega) (by omega)
theorem sH (n:Nat) (h:1≤n):(oM n).getD (n - 1) false=true:=by
 unfold oM
 rw [List.getD_eq_getElem?_getD,List.getElem?_set,if_pos rfl,if_pos (by rw [List.length_replicate];omega)]
 rfl
theorem mM.bit {q:List eS} {l:List bL} {ws:List Int} (h:mM q l ws) (hK:∀ j:Nat,j < l.length → -9223372036854775808≤(aC l (j:Int)).f2∧(aC l (j:Int)).f2≤9223372036854775807) (xs:List Int) (hx:xs.length=8) (he:kA ws xs) :
  rd (gD l xs l.length) ((l.length:Int) - 1)=0∨rd (gD l xs l.length) ((l.length:Int) - 1)=1:=by
 have hp:=fF h.term
 have hl:(oM l.length).length=l.length:=gK _
 have e:((l.length:Int) - 1)=((l.length - 1:Nat):Int):=by omega
 have hv:=aGL l h.term ws xs hx (pF l l.length (oM l.length)) (fun i hi hm=>pW l h.term l.length _ i hi (Nat.le_refl _) hl hm) h.plain hK
  (fun j hj hm ho=>aDD l _ ws l.length 0 h.fits j (by omega) (by omega) hm ho) he (l.length - 1) (by omega) (mT l l.length _ _ (sH _ hp))
 have hr:=h.root
 rw [e] at hr ⊢
 rw [hr] at hv
 rw [eO]
 unfold lE at hv
 have h2:(2:Int) ^ (1:Int).toNat=2:=by decide
 rw [h2] at hv
 omega
theorem mM.rootBit {q:List eS} {l:List bL} {ws:List Int} (h:mM q l ws) (hK:∀ j:Nat,j < l.length → -9223372036854775808≤(aC l (j:Int)).f2∧(aC l (j:Int)).f2≤9223372036854775807) (n t:Nat):mU q l n t=0∨mU q l n t=1 :=
 h.bit hK _ (kZ q n (t + 1)) (aFA q ws n h.vars (t + 1))
theorem aGJ (q:List eS) (l:List bL) (n:Nat) (hn12:n≤12) (hq:q.length≤1048576) (hw:∀ j:Nat,j < q.length→1≤(aV q (j:Int)).f2∧(aV q (j:Int)).f2≤8) (hv:∀ j:Nat,j < q.length→0≤(aV q (j:Int)).f1∧(aV q (j:Int)).f1≤7) (hs:lY q q.length 0=(n:Int))
  (hT:fN l=true) (hn:l.length≤1048576) (hp:∀ j:Nat,j < l.length→qu (aC l (j:Int)).f0=false) (hK:∀ j:Nat,j < l.length → -9223372036854775808≤(aC l (j:Int)).f2∧(aC l (j:Int)).f2≤9223372036854775807) (hb:∀ t,t < 2 ^ n→mU q l n t=0∨mU q l n t=1) :
  Ev (fun k=>bE.l0 k q l (n:Int) [] (List.replicate 8 0) 0) ((n:Int),strOfNums (wQ q l n),true):=by
 have hpos:=fF hT
 have hN:2 ^ n≤4096:=Nat.le_trans (Nat.pow_le_pow_right (by decide) hn12) (by decide)
 have hsl:=uD q l n
 have hwl:wrap64 ((l.length:Int) - 1)=(l.length:Int) - 1:=by unfold wrap64;omega
 have hpw:Ev (fun k=>aH.f k (n:Int)) ((2 ^ n:Nat):Int):=jT n (fun k hk=>by rw [jU n (by omega) k hk];norm_cast)
 have main:∀ j:Nat,j≤2 ^ n→Ev (fun k=>bE.l0 k q l (n:Int) ((wQ q l n).take j) (zN q n j) (j:Int)) ((n:Int),strOfNums (wQ q l n),true):=by
  refine lM (fun k j=>bE.l0 k q l (n:Int) ((wQ q l n).take j) (zN q n j) (j:Int)) (2 ^ n) _ (fun j hj h=>?_) ?_
  ·refine aZ ?_
   simp only [bE.l0]
   refine bC hpw ?_
   simp only [if_pos (show (j:Int) < ((2 ^ n:Nat):Int) by omega)]
   refine aGK q l (n:Int) _ _ hq hw hv j (by omega) q.length 0 (by omega) n (zN q n j) hn12 (by omega) (kZ q n j) ?_
   rw [hwl]
   refine bC (atS l hT hn (zN q n (j + 1)) (kZ q n (j + 1)) hp hK) ?_
   have hlen:((wQ q l n).take j).length < 140737488355328:=by rw [List.length_take];omega
   simp only [if_pos hlen,eP j (show j < 4611686018427387904 by omega)]
   have ht:(wQ q l n).take j ++ [(wrap64 (48 + mU q l n j)) % 256]=(wQ q l n).take (j + 1):=by
    rw [List.take_succ_eq_append_getElem (by rw [hsl];exact hj)]
    congr 2
    simp only [wQ,List.getElem_map,List.getElem_range]
    rcases hb j hj with h|h <;> rw [h] <;> unfold wrap64 <;> decide
   unfold mU at ht
   rw [ht]
   exact h
  ·refine aZ ?_
   simp only [bE.l0]
   refine bC hpw ?_
   simp only [if_neg (show ¬ ((2 ^ n:Nat):Int) < ((2 ^ n:Nat):Int) by omega)]
   rw [List.take_of_length_le (by omega)]
   exact bA _
 exact main 0 (by omega)
noncomputable def aBI (q:List eS) (l:List bL):Int × ByteArray × Bool:=if wB q l=true∧lY q q.length 0≤12 then (lY q q.length 0,strOfNums (wQ q l (lY q q.length 0).toNat),true) else (0,⟨#[]⟩,false)
theorem wC {q:List eS} {l:List bL} {ws:List Int} (h:mM q l ws):∀ j:Nat,j < q.length→1≤(aV q (j:Int)).f2∧(aV q (j:Int)).f2≤8:=fun j hj=>(h.vars j hj).2.1
theorem aDH {q:List eS} {l:List bL} {ws:List Int} (h:mM q l ws):0≤lY q q.length 0:=rG q (wC h) q.length 0 (by omega)
theorem rP (q:List eS) (hq:q.length≤1048576) (hw:∀ j:Nat,j < q.length→1≤(aV q (j:Int)).f2∧(aV q (j:Int)).f2≤8):Ev (fun k=>cU.f k q) (lY q q.length 0):=by
 have main:∀ d i,i + d=q.length→∀ s:Int,0≤s→s≤8 * (i:Int)→Ev (fun k=>cU.l0 k q s (i:Int)) (s + lY q d i):=by
  intro d
  induction d with
  | zero =>
   intro i hi s h0 h1
   refine aZ ?_
   simp only [cU.l0,if_neg (show ¬ (i:Int) < (q.length:Int) by omega),lY,Int.add_zero]
   exact bA _
  | succ d ih =>
   intro i hi s h0 h1
   have hwi:=hw i (by omega)
   have e:=ih (i + 1) (by omega) (s + (aV q (i:Int)).f2) (by omega) (by push_cast;omega)
   refine aZ ?_
   simp only [cU.l0,if_pos (show (i:Int) < (q.length:Int) by omega),if_pos (show 0≤(i:Int) by omega),pG,decide_eq_true hwi,Option.bind_some,if_true,eP i (show i < 4611686018427387904 by omega),
    jR (show -9223372036854775808≤s + (aV q (i:Int)).f2 by omega) (show s + (aV q (i:Int)).f2≤9223372036854775807 by omega),lY]
   rw [← Int.add_assoc]
   exact e
 have:=main q.length 0 (by omega) 0 (by omega) (by omega)
 rw [Int.zero_add] at this
 exact this
theorem aER (q:List eS) (l:List bL) (hq:q.length≤1048576) (hl:l.length≤1048576) (hK:∀ j:Nat,j < l.length → -9223372036854775808≤(aC l (j:Int)).f2∧(aC l (j:Int)).f2≤9223372036854775807):Ev (fun k=>bE.f k q l) (aBI q l):=by
 obtain ⟨v,v0,e1,_,hv⟩:=zY q hq
 have stop:Ev (fun k=>bE.j0 k q l v true) (0,(⟨#[]⟩:ByteArray),false):=aZ (by simp only [bE.j0,if_true];exact bA _)
 unfold bE.f
 refine bC (f:=fun k t102=>(bV.f k q l).bind fun t103=>(if t103=true then (bE.j0 k q l t102 (decide (t102 > 12))) else (bE.j0 k q l t102 true))) e1 ?_
 refine bC (f:=fun k t103=>if t103=true then (bE.j0 k q l v (decide (v > 12))) else (bE.j0 k q l v true)) (aDI q l hq hl) ?_
 unfold aBI
 cases hf:wB q l with
 | false =>
  simp only [Bool.false_eq_true,if_false,false_and]
  exact stop
 | true =>
  obtain ⟨ws,ok⟩:=aFS hf
  have hsum:=mC e1 (rP q hq (wC ok))
  simp only [if_true,true_and]
  rw [← hsum]
  by_cases h12:v > 12
  ·rw [decide_eq_true h12,if_neg (by omega)]
   exact stop
  ·rw [decide_eq_false h12,if_pos (by omega)]
   obtain ⟨n,rfl⟩:=Int.eq_ofNat_of_zero_le v0
   rw [Int.toNat_natCast]
   refine aZ ?_
   simp only [bE.j0,Bool.false_eq_true,if_false]
   refine bC (f:=fun k t107=>bE.l0 k q l (n:Int) (([]:List Int)) t107 0) pE ?_
   exact aGJ q l n (by omega) hq (wC ok) (fun j hj=>(ok.vars j hj).1) hsum.symm ok.term hl ok.plain hK (fun t _=>ok.rootBit hK n t)
theorem aFT (q:List eS) (hr:∀ j:Nat,j < q.length→(0≤(aV q (j:Int)).f1∧(aV q (j:Int)).f1≤7)∧(1≤(aV q (j:Int)).f2∧(aV q (j:Int)).f2≤8)) (hd:∀ a b:Nat,a < b→b < q.length→(aV q (a:Int)).f1≠(aV q (b:Int)).f1) :
  ∀ d i,i + d=q.length→∀ ws:List Int,ws.length=8→(∀ j:Nat,i≤j→j < q.length→rd ws (aV q (j:Int)).f1=0)→∃ ws',rX q d i ws=some ws'∧∀ K:Int,0≤K→(∀ j:Nat,i≤j→j < q.length→(aV q (j:Int)).f1≠K)→rd ws' K=rd ws K:=by
 intro d
 induction d with
 | zero=>intro i _ ws _ _;exact ⟨ws,rfl,fun _ _ _=>rfl⟩
 | succ d ih =>
  intro i hi ws hw h0
  have hri:=hr i (by omega)
  obtain ⟨ws',e,h⟩:=ih (i + 1) (by omega) (ws.set (aV q (i:Int)).f1.toNat (aV q (i:Int)).f2) (by rw [List.length_set];exact hw) (fun j h1 h2=>by
   rw [nH _ _ _ _ hri.1.1 (hr j h2).1.1 (by omega),if_neg (fun e=>hd i j (by omega) h2 e.symm)]
   exact h0 j (by omega) h2)
  refine ⟨ws',?_,fun K hK hn=>?_⟩
  ·unfold rX
   rw [if_pos ⟨hri.1,hri.2,h0 i (Nat.le_refl _) (by omega)⟩]
   exact e
  ·rw [h K hK (fun j h1 h2=>hn j (by omega) h2),nH _ _ _ _ hri.1.1 hK (by omega),if_neg (fun e=>hn i (Nat.le_refl _) (by omega) e.symm)]
theorem aDE (l:List bL) (ms:List Bool) (ws:List Int) (h:∀ j:Nat,j < l.length→qu (aC l (j:Int)).f0=false∧(cL false ms (j:Int)=true→(aC l (j:Int)).f0=1→rd ws (aC l (j:Int)).f2=(aC l (j:Int)).f1)):∀ d i,i + d=l.length→vZ l ms ws d i=true:=by
 intro d
 induction d with
 | zero=>intro i _;rfl
 | succ d ih =>
  intro i hi
  have hj:=h i (by omega)
  simp only [vZ,hj.1,ih (i + 1) (by omega),Bool.not_false,Bool.true_and,Bool.and_true]
  by_cases c:cL false ms (i:Int)=true
  ·rw [if_pos c]
   by_cases c1:(aC l (i:Int)).f0=1
   ·rw [if_pos c1]
    exact beq_iff_eq.2 (hj.2 c c1)
   ·rw [if_neg c1]
  ·rw [if_neg c]
theorem aDF {q:List eS} {l:List bL} {ws:List Int} (h:mM q l ws):wB q l=true:=by
 unfold wB
 rw [h.fw]
 simp only [h.term,h.fits,beq_iff_eq.2 h.root,Bool.and_self]
theorem aEQ (q:List eS):∀ d i,i + d=q.length→lY q d i=((q.drop i).map fun x=>x.f2).sum:=by
 intro d
 induction d with
 | zero=>intro i hi;rw [List.drop_of_length_le (by omega)];rfl
 | succ d ih =>
  intro i hi
  rw [List.drop_eq_getElem_cons (show i < q.length by omega),List.map_cons,List.sum_cons,← ih (i + 1) (by omega)]
  simp only [lY]
  rw [lP,dZ q i _ (by omega)]
theorem aCG (l:List bL):qB l=sm (fun j=>nB (aC l (j:Int))) l.length:=by
 have main:∀ i,i≤l.length→((l.take i).map nB).sum=sm (fun j=>nB (aC l (j:Int))) i:=by
  intro i
  induction i with
  | zero=>intro _;rfl
  | succ i ih =>
   intro hi
   rw [List.take_succ_eq_append_getElem (by omega),List.map_append,List.sum_append,ih (by omega)]
   simp only [sm,List.map_cons,List.map_nil,List.sum_cons,List.sum_nil,Nat.add_zero]
   rw [jF,dZ l i _ (by omega)]
 have:=main l.length (Nat.le_refl _)
 rw [List.take_length] at this
 exact this
def nM (l:List bL):Nat→Nat→Nat
 | 0,p=>p
 | d + 1,p=>if qu (aC l (p:Int)).f0=true then nM l d (aC l (p:Int)).f3.toNat else p
theorem nN (l:List bL) (hT:fN l=true):∀ d p,p < d→p < l.length→Ev (fun k=>cJ.l0 k l (p:Int)) ((nM l d p:Nat):Int)∧nM l d p≤p∧qu (aC l ((nM l d p:Nat):Int)).f0=false∧(aC l ((nM l d p:Nat):Int)).f1=(aC l (p:Int)).f1∧(cL false (hG l) (p:Int)=true→cL false (hG l) ((nM l d p:Nat):Int)=true):=by
 intro d
 induction d with
 | zero=>intro p h;omega
 | succ d ih =>
  intro p hd hp
  cases hq:qu (aC l (p:Int)).f0 with
  | false =>
   have hbl:nM l (d + 1) p=p:=by simp only [nM,hq,Bool.false_eq_true,if_false]
   rw [hbl]
   refine ⟨aZ ?_,Nat.le_refl _,hq,rfl,fun h=>h⟩
   simp only [cJ.l0,if_pos (show 0≤(p:Int) by omega),if_pos (show (p:Int) < (l.length:Int) by omega),quS,Option.bind_some,hq,Bool.false_eq_true,if_false]
   exact bA _
  | true =>
   have hbl:nM l (d + 1) p=nM l d (aC l (p:Int)).f3.toNat:=by simp only [nM,hq,if_true]
   rw [hbl]
   have hqu:=iZ l hT p hp hq
   have hmem:(aC l (p:Int)).f3∈np (aC l (p:Int)):=by rw [hqu.2.2.1];exact List.mem_singleton.2 rfl
   have hb:=dD l hT p hp _ hmem
   obtain ⟨x,hx⟩:=Int.eq_ofNat_of_zero_le hb.1
   have hw:=hqu.2.2.2
   rw [hx] at hb hmem hw ⊢
   rw [Int.toNat_natCast]
   obtain ⟨e,h1,h2,h3,h4⟩:=ih x (by omega) (by omega)
   refine ⟨aZ ?_,by omega,h2,by rw [h3,hw.1,hw.2],fun h=>h4 (iL l hT p hp h _ hmem)⟩
   simp only [cJ.l0,if_pos (show 0≤(p:Int) by omega),if_pos (show (p:Int) < (l.length:Int) by omega),quS,Option.bind_some,hq,if_true,hx]
   exact e
abbrev mK (l:List bL) (x:Int):Int:=((nM l l.length x.toNat:Nat):Int)
theorem xF (l:List bL) (hT:fN l=true) (x:Int) (h0:0≤x) (h1:x < (l.length:Int)):Ev (fun k=>cJ.f k l x) (mK l x):=by
 obtain ⟨p,rfl⟩:=Int.eq_ofNat_of_zero_le h0
 exact (nN l hT l.length p (by omega) (by omega)).1
def oB (l:List bL) (i:Nat):List bL:=(List.range i).map fun j:Nat=>mv (mK l) (aC l (j:Int))
theorem eJ (l:List bL) (i:Nat):(oB l i).length=i:=by simp [oB]
theorem zB (l:List bL) (i:Nat):oB l (i + 1)=oB l i ++ [mv (mK l) (aC l (i:Int))]:=by simp [oB,List.range_succ]
theorem sJ (l:List bL) (i m:Nat) (h:m≤i):(oB l i).take m=oB l m:=by
 unfold oB
 rw [← List.map_take,List.take_range,Nat.min_eq_left h]
theorem jP (l:List bL) (i j:Nat) (h:j < i):aC (oB l i) (j:Int)=mv (mK l) (aC l (j:Int)):=by
 rw [jF,dZ _ j _ (by rw [eJ];exact h)]
 simp [oB]
theorem rH (l:List bL) (hT:fN l=true) (m:Nat) (h1:1≤m) (h2:m≤l.length):fN (oB l m)=true:=by
 have hl8:=iF hT
 refine zD (by rw [eJ];exact h1) (by rw [eJ];omega) (fun j hj=>?_)
 rw [eJ] at hj
 rw [sJ l m j (by omega),jP l m j hj]
 refine vE (l.take j) (oB l j) _ _ (sK l hT j (by omega)) (fun p hp=>?_)
 have hb:=dD l hT j (by omega) p hp
 obtain ⟨x,rfl⟩:=Int.eq_ofNat_of_zero_le hb.1
 obtain ⟨_,g1,_,g3,_⟩:=nN l hT l.length x (by omega) (by omega)
 rw [rB l j x (by omega),eJ]
 simp only [mK,Int.toNat_natCast]
 rw [jP l j _ (by omega)]
 exact ⟨by omega,g3⟩
theorem rW (l:List bL) (q:List eS) (acc:List bL) (ha:acc.length < 2932031007402) (i:Nat) (hi:i < 4611686018427387904) (ps:List Int) (a0 a1 a2 a3 a4 a5 b4 b5:Int) (R:List eS × List bL × Bool)
  (h4:1 < ps.length→Ev (fun k=>cJ.f k l a4) b4) (h5:2 < ps.length→Ev (fun k=>cJ.f k l a5) b5) (e:Ev (fun k=>cK.l0 k l q (acc ++ [⟨a0,a1,a2,a3,if 1 < ps.length then b4 else a4,if 2 < ps.length then b5 else a5⟩]) ((i + 1:Nat):Int)) R) :
  Ev (fun k=>cK.j1 k l q acc (i:Int) ps a0 a1 a2 a3 a4 a5) R:=by
 refine aZ ?_
 by_cases c1:1 < ps.length
 ·rw [if_pos c1] at e
  by_cases c2:2 < ps.length
  ·rw [if_pos c2] at e
   simp only [cK.j1,if_pos (show (ps.length:Int) > 1 by omega),if_pos (show (ps.length:Int) > 2 by omega),if_pos ha,eP i hi]
   exact bC (h4 c1) (bC (h5 c2) e)
  ·rw [if_neg c2] at e
   simp only [cK.j1,if_pos (show (ps.length:Int) > 1 by omega),if_neg (show ¬ (ps.length:Int) > 2 by omega),if_pos ha,eP i hi]
   exact bC (h4 c1) e
 ·rw [if_neg c1,if_neg (show ¬ 2 < ps.length by omega)] at e
  simp only [cK.j1,if_neg (show ¬ (ps.length:Int) > 1 by omega),if_neg (show ¬ (ps.length:Int) > 2 by omega),if_pos ha,eP i hi]
  exact e
theorem tH (l:List bL) (hT:fN l=true) (q:List eS) (R:List eS × List bL × Bool) (hE:Ev (fun k=>cK.l0 k l q (oB l l.length) (l.length:Int)) R):∀ d i,i + d=l.length→Ev (fun k=>cK.l0 k l q (oB l i) (i:Int)) R:=by
 have hl8:=iF hT
 intro d
 induction d with
 | zero =>
  intro i hi
  obtain rfl:i=l.length:=by omega
  exact hE
 | succ d ih =>
  intro i hi
  have e:=ih (i + 1) (by omega)
  rw [zB] at e
  have hpp:=dD l hT i (by omega)
  have hmem:=yH (aC l (i:Int))
  have ev:∀ x∈np (aC l (i:Int)),Ev (fun k=>cJ.f k l x) (mK l x):=fun x hx=>by
   have:=hpp x hx
   exact xF l hT x (by omega) (by omega)
  refine aZ ?_
  simp only [cK.l0,if_pos (show (i:Int) < (l.length:Int) by omega),if_pos (show 0≤(i:Int) by omega)]
  refine bC (nQ (aC l (i:Int))) ?_
  by_cases c0:0 < (np (aC l (i:Int))).length
  ·simp only [if_pos (show ((np (aC l (i:Int))).length:Int) > 0 by omega)]
   refine bC (ev _ (hmem.1 c0)) ?_
   refine rW l q (oB l i) (by rw [eJ];omega) i (by omega) _ _ _ _ _ _ _ _ _ R (fun h=>ev _ (hmem.2.1 h)) (fun h=>ev _ (hmem.2.2 h)) ?_
   unfold mv at e
   rw [if_pos c0] at e
   exact e
  ·simp only [if_neg (show ¬ ((np (aC l (i:Int))).length:Int) > 0 by omega)]
   refine rW l q (oB l i) (by rw [eJ];omega) i (by omega) _ _ _ _ _ _ _ (mK l (aC l (i:Int)).f4) (mK l (aC l (i:Int)).f5) R (fun h=>by omega) (fun h=>by omega) ?_
   unfold mv at e
   rw [if_neg c0] at e
   exact e
theorem aES (l:List bL) (hT:fN l=true) (m:Nat) (hm:(m:Int)=mK l ((l.length:Int) - 1)) (h2:m < l.length):∀ d p,m≤p + d→p < m + 1→cL false (hG (oB l (m + 1))) (p:Int)=true→cL false (hG l) (p:Int)=true∧qu (aC l (p:Int)).f0=false:=by
 have hp:=fF hT
 have hT2:=rH l hT (m + 1) (by omega) (by omega)
 have root:cL false (hG l) (m:Int)=true∧qu (aC l (m:Int)).f0=false:=by
  obtain ⟨_,_,g2,_,g4⟩:=nN l hT l.length (l.length - 1) (by omega) (by omega)
  have e:((m:Nat):Int)=((nM l l.length (l.length - 1):Nat):Int):=by
   rw [hm]
   unfold mK
   rw [show ((l.length:Int) - 1).toNat=l.length - 1 from by omega]
  rw [e]
  exact ⟨g4 (iV l hp),g2⟩
 intro d
 induction d with
 | zero =>
  intro p h1 h3 _
  obtain rfl:p=m:=by omega
  exact root
 | succ d ih =>
  intro p h1 h3 hmk
  by_cases e:p=m
  ·subst e
   exact root
  ·obtain ⟨j,hj1,hj2,hjm,hjp⟩:=vC (oB l (m + 1)) hT2 p hmk (by rw [eJ];omega)
   rw [eJ] at hj2
   have hj:=ih j (by omega) hj2 hjm
   rw [jP l (m + 1) j hj2,mS] at hjp
   obtain ⟨x,hx,ex⟩:=List.mem_map.1 hjp
   have hb:=dD l hT j (by omega) x hx
   have hmx:=iL l hT j (by omega) hj.1 x hx
   obtain ⟨y,rfl⟩:=Int.eq_ofNat_of_zero_le hb.1
   obtain ⟨_,_,g2,_,g4⟩:=nN l hT l.length y (by omega) (by omega)
   unfold mK at ex
   rw [Int.toNat_natCast] at ex
   rw [← ex]
   exact ⟨g4 hmx,g2⟩
theorem aGC {l:List bL} {q:List eS} (Q:sV l q) (j:Nat) (hj:j < q.length):∃ i,i∈qs l (lZ l)∧(aV q (j:Int)).f1=(aC l (i:Int)).f2∧(aV q (j:Int)).f2=(aC l (i:Int)).f4:=by
 rw [lP,dZ q j _ hj]
 have h:(q[j].f1,q[j].f2)∈q.map (fun x=>(x.f1,x.f2)):=List.mem_map.2 ⟨q[j],List.getElem_mem hj,rfl⟩
 rw [Q.map] at h
 obtain ⟨i,hi,e⟩:=List.mem_map.1 h
 have:=Prod.mk.inj e
 exact ⟨i,hi,this.1.symm,this.2.symm⟩
theorem aGD {l:List bL} {q:List eS} (Q:sV l q) (i:Nat) (hi:i∈qs l (lZ l)):∃ j:Nat,j < q.length∧(aV q (j:Int)).f1=(aC l (i:Int)).f2∧(aV q (j:Int)).f2=(aC l (i:Int)).f4:=by
 have h:qp l i∈(qs l (lZ l)).map (qp l):=List.mem_map.2 ⟨i,hi,rfl⟩
 rw [← Q.map] at h
 obtain ⟨x,hx,e⟩:=List.mem_map.1 h
 obtain ⟨j,hj,rfl⟩:=List.getElem_of_mem hx
 have:=Prod.mk.inj e
 refine ⟨j,hj,?_⟩
 rw [lP,dZ q j _ hj]
 exact this
theorem aCH {l:List bL} (S:lT l) {q:List eS} (Q:sV l q):(q.map fun x=>x.f1).Nodup:=by
 obtain ⟨ws,_,I,_⟩:=S.ws
 show (q.map fun x=>x.f1).Pairwise (· ≠ ·)
 have e:(q.map fun x=>x.f1)=(qs l (lZ l)).map fun j:Nat=>(aC l (j:Int)).f2:=by
  have:=congrArg (List.map Prod.fst) Q.map
  rw [List.map_map,List.map_map] at this
  exact this
 rw [e,List.pairwise_map]
 refine List.Pairwise.imp_of_mem (fun {a b} ha hb hab e2=>?_) Q.nd
 have ha2:=(Q.mem a).1 ha
 have hb2:=(Q.mem b).1 hb
 exact hab (I.one a b ha2.1 hb2.1 ha2.2 hb2.2 e2)
theorem yP {l:List bL} (S:lT l) {q:List eS} (Q:sV l q):∀ a b:Nat,a < b→b < q.length→(aV q (a:Int)).f1≠(aV q (b:Int)).f1:=by
 have h:(q.map fun x=>x.f1).Pairwise (· ≠ ·):=aCH S Q
 intro a b hab hb
 have:=List.pairwise_iff_getElem.1 h a b (by rw [List.length_map];omega) (by rw [List.length_map];exact hb) hab
 rw [lP,lP,dZ q a _ (by omega),dZ q b _ hb]
 simpa using this
theorem aBC {l:List bL} (S:lT l) {q:List eS} (Q:sV l q):lY q q.length 0≤((qB l:Nat):Int):=by
 have hT:=S.tm
 rw [aEQ q q.length 0 (by omega),List.drop_zero]
 have e:(q.map fun x=>x.f2)=(qs l (lZ l)).map fun j:Nat=>(aC l (j:Int)).f4:=by
  have:=congrArg (List.map Prod.snd) Q.map
  rw [List.map_map,List.map_map] at this
  exact this
 rw [e]
 have h1:∀ V:List Nat,(∀ j∈V,j < l.length∧qu (aC l (j:Int)).f0=true)→(V.map fun j:Nat=>(aC l (j:Int)).f4).sum=(((V.map fun j:Nat=>nB (aC l (j:Int))).sum:Nat):Int):=by
  intro V
  induction V with
  | nil=>intro _;rfl
  | cons a V ih =>
   intro h
   have ha:=h a (List.mem_cons_self ..)
   have hq:=iZ l hT a ha.1 ha.2
   have hn:((nB (aC l (a:Int)):Nat):Int)=(aC l (a:Int)).f4:=by
    unfold nB
    rw [if_pos ((jN _).1 ha.2)]
    omega
   rw [List.map_cons,List.sum_cons,List.map_cons,List.sum_cons,ih (fun j hj=>h j (List.mem_cons_of_mem _ hj)),Int.natCast_add,hn]
 rw [h1 _ (fun j hj=>⟨((Q.mem j).1 hj).1,((Q.mem j).1 hj).2.2⟩),lI (fun j:Nat=>nB (aC l (j:Int))) l.length _ (fun j hj=>((Q.mem j).1 hj).1),aCG]
 have:=vJ (f:=fun j=>(qs l (lZ l)).count j * nB (aC l (j:Int))) (g:=fun j:Nat=>nB (aC l (j:Int))) l.length (fun j _=>by
  have h:=Nat.mul_le_mul_right (nB (aC l (j:Int))) (List.nodup_iff_count.1 Q.nd j)
  rw [Nat.one_mul] at h
  exact h)
 omega
theorem tG (l:List bL) (h:Ev (fun k=>cI.f k l) true) (S:lT l):∃ q r ws,Ev (fun k=>cK.f k l) (q,r,true)∧mM q r ws∧lY q q.length 0≤((qB l:Nat):Int)∧q.length≤80∧r.length≤80∧(q.map fun x=>x.f1).Nodup∧sV l q∧Ev (fun k=>dA.f k l (gE l) ((l.length:Int) - 1) false) q∧∃ m:Nat,(m:Int)=mK l ((l.length:Int) - 1)∧m < l.length∧Ev (fun k=>eZ.f k (oB l (m + 1))) r:=by
 have hT:=S.tm
 have hl8:=iF hT
 have hp:=fF hT
 obtain ⟨q,eq,Q⟩:=aGE S
 have hw:wrap64 ((l.length:Int) - 1)=(l.length:Int) - 1:=jR (by omega) (by omega)
 have hql:q.length≤80:=by
  have h1:=congrArg List.length Q.map
  rw [List.length_map,List.length_map] at h1
  have h2:(qs l (lZ l)).length≤(lZ l).length:=List.length_filter_le _ _
  have h3:(lZ l).length≤l.length:=mJ l hT l.length (l.length - 1) (by omega) (by omega) (iV l hp) (mZ S)
  omega
 have hr:∀ j:Nat,j < q.length→(0≤(aV q (j:Int)).f1∧(aV q (j:Int)).f1≤7)∧(1≤(aV q (j:Int)).f2∧(aV q (j:Int)).f2≤8):=fun j hj=>by
  obtain ⟨i,hi,e1,e2⟩:=aGC Q j hj
  have hi2:=(Q.mem i).1 hi
  have:=iZ l hT i hi2.1 hi2.2.2
  rw [e1,e2]
  exact ⟨this.1,this.2.1⟩
 obtain ⟨ws,efw,_⟩:=aFT q hr (yP S Q) q.length 0 (by omega) (List.replicate 8 0) rfl (fun j _ hj=>by
  obtain ⟨K,hK⟩:=Int.eq_ofNat_of_zero_le (hr j hj).1.1
  rw [hK,eO,List.getD_eq_getElem?_getD,List.getElem?_replicate]
  split <;> rfl)
 have hvars:∀ j:Nat,j < q.length→(0≤(aV q (j:Int)).f1∧(aV q (j:Int)).f1≤7)∧(1≤(aV q (j:Int)).f2∧(aV q (j:Int)).f2≤8)∧rd ws (aV q (j:Int)).f1=(aV q (j:Int)).f2:=fun j hj=>xR q q.length 0 _ ws rfl efw j (by omega) (by omega)
 obtain ⟨m,hm⟩:∃ m:Nat,(m:Int)=mK l ((l.length:Int) - 1):=⟨_,rfl⟩
 have hroot:=nN l hT l.length (l.length - 1) (by omega) (by omega)
 have em:m=nM l l.length (l.length - 1):=by
  unfold mK at hm
  rw [show ((l.length:Int) - 1).toNat=l.length - 1 from by omega] at hm
  omega
 rw [← em] at hroot
 have hml:m < l.length:=by omega
 have hT2:=rH l hT (m + 1) (by omega) (by omega)
 obtain ⟨r,er,hTr,hwr,hof⟩:=yN (oB l (m + 1)) hT2
 rw [eJ] at hwr hof
 have hnode:∀ j:Nat,j < r.length→qu (aC r (j:Int)).f0=false∧((aC r (j:Int)).f0=1→rd ws (aC r (j:Int)).f2=(aC r (j:Int)).f1):=fun j hj=>by
  obtain ⟨p,hpm,hmk,e0,e1,e2⟩:=hof j hj
  have hk:=aES l hT m hm hml m p (by omega) hpm hmk
  rw [jP l (m + 1) p hpm] at e0 e1 e2
  rw [e0,e1,e2]
  refine ⟨hk.2,fun h1=>?_⟩
  obtain ⟨uK,hw8,I,hv⟩:=S.ws
  have hp2:p < l.length:=by omega
  have hvp:=hv p hp2 hk.1 h1
  have hvar:=lK l hT p hp2 h1
  have hnw:=tO l hT p hp2
  obtain ⟨v,hv2⟩:=Int.eq_ofNat_of_zero_le hvar.1
  show rd ws (aC l (p:Int)).f2=(aC l (p:Int)).f1
  obtain ⟨j',hj',hQ,ej⟩:=I.has v (by omega) (by rw [← hv2,hvp];omega)
  obtain ⟨a,ha,a1,a2⟩:=aGD Q j' ((Q.mem j').2 ⟨hj',hQ⟩)
  have h5:=I.at_ j' hj' hQ
  have h6:=(hvars a ha).2.2
  rw [a1,a2] at h6
  rw [hv2,← ej,h6,← h5,ej,← hv2,hvp]
 have ok:mM q r ws:=by
  refine ⟨hvars,efw,hTr,?_,aDE r _ ws (fun j hj=>⟨(hnode j hj).1,fun _=>(hnode j hj).2⟩) r.length 0 (by omega)⟩
  rw [hwr,show (((m + 1:Nat):Int) - 1)=(m:Int) from by omega,jP l (m + 1) m (by omega)]
  show (aC l (m:Int)).f1=1
  rw [hroot.2.2.2.1,show ((l.length - 1:Nat):Int)=(l.length:Int) - 1 from by omega]
  exact S.root
 refine ⟨q,r,ws,?_,ok,aBC S Q,hql,iF hTr,aCH S Q,Q,eq,m,hm,hml,er⟩
 unfold cK.f
 refine bC h ?_
 simp only [if_true,hw]
 refine bC (uU l hT (by omega)) (bC eq ?_)
 refine tH l hT q _ ?_ l.length 0 (by omega)
 refine aZ ?_
 simp only [cK.l0,if_neg (show ¬ (l.length:Int) < (l.length:Int) by omega),hw]
 refine bC (a:=(m:Int)) (by rw [hm];exact xF l hT _ (by omega) (by omega)) ?_
 have hw2:wrap64 ((m:Int) + 1)=((m + 1:Nat):Int):=eP m (by omega)
 have z1:(0:Int)≤((m + 1:Nat):Int):=Int.natCast_nonneg _
 have z2:((m + 1:Nat):Int)≤(l.length:Int):=Int.ofNat_le.2 hml
 have z3:=sJ l l.length (m + 1) hml
 simp only [hw2,if_pos z1,eJ,if_pos z2,Int.toNat_natCast,z3]
 exact bC er (bA _)
theorem vW {ws xs:List Int} (hx:xs.length=8) (h:kA ws xs) (K:Int) (hK:0≤K) (v:Int) (hv:lE (rd ws K) v):kA ws (xs.set K.toNat v):=by
 intro j hj
 rw [eO (xs.set _ _),List.getD_eq_getElem?_getD,List.getElem?_set]
 by_cases e:K.toNat=j
 ·rw [if_pos e,if_pos (by omega),show ((j:Nat):Int)=K from by omega]
  exact hv
 ·rw [if_neg e,← List.getD_eq_getElem?_getD,← eO]
  exact h j hj
theorem uA (q:List eS) (hw:∀ j:Nat,j < q.length→1≤(aV q (j:Int)).f2∧(aV q (j:Int)).f2≤8):∀ d i,i + d=q.length→((tZ q d i).length:Int)=lY q d i:=by
 intro d
 induction d with
 | zero=>intro i _;rfl
 | succ d ih =>
  intro i hi
  have h:=ih (i + 1) (by omega)
  have h1:=hw i (by omega)
  simp only [tZ,lY,List.length_append,List.length_replicate]
  omega
theorem aGF (q:List eS) (hq:q.length≤1048576) (hw:∀ j:Nat,j < q.length→1≤(aV q (j:Int)).f2∧(aV q (j:Int)).f2≤8) (h12:lY q q.length 0≤12):Ev (fun k=>dK.f k q) (tZ q q.length 0):=by
 have e1:=rP q hq hw
 unfold dK.f
 simp only [Option.bind_some]
 refine bC (f:=fun k t104=>if t104 > 12 then (some ([]:List Bool)) else (dK.l0 k q [] 0)) e1 ?_
 simp only [if_neg (show ¬ lY q q.length 0 > 12 by omega)]
 have inner:∀ (i:Nat) (r:List Bool) (w:Nat),i < q.length→(aV q (i:Int)).f2=(w:Int)→w≤8→(∀ acc:List Bool,acc.length≤8 * (i + 1)→Ev (fun k=>dK.l0 k q acc (wrap64 ((i:Int) + 1))) (acc ++ r))→∀ e j,j + e=w→∀ acc:List Bool,acc.length≤8 * i + j→Ev (fun k=>dK.l1 k q acc (i:Int) (j:Int)) (acc ++ (List.replicate e (aV q (i:Int)).f0 ++ r)):=by
  intro i r w hi hw2 h8 hn e
  induction e with
  | zero =>
   intro j hj acc ha
   refine aZ ?_
   simp only [dK.l1,if_pos (show 0≤(i:Int) by omega),if_pos (show (i:Int) < (q.length:Int) by omega),hw2,if_neg (show ¬ (j:Int) < (w:Int) by omega)]
   exact hn acc (by omega)
  | succ e ih =>
   intro j hj acc ha
   refine aZ ?_
   simp only [dK.l1,if_pos (show 0≤(i:Int) by omega),if_pos (show (i:Int) < (q.length:Int) by omega),hw2,if_pos (show (j:Int) < (w:Int) by omega),if_pos (show acc.length < 140737488355328 by omega),eP j (show j < 4611686018427387904 by omega)]
   have:=ih (j + 1) (by omega) (acc ++ [(aV q (i:Int)).f0]) (by simp;omega)
   rw [List.append_assoc] at this
   exact this
 have main:∀ d i,i + d=q.length→∀ acc:List Bool,acc.length≤8 * i→Ev (fun k=>dK.l0 k q acc (i:Int)) (acc ++ tZ q d i):=by
  intro d
  induction d with
  | zero =>
   intro i hi acc ha
   refine aZ ?_
   simp only [dK.l0,if_neg (show ¬ (i:Int) < (q.length:Int) by omega),tZ,List.append_nil]
   exact bA _
  | succ d ih =>
   intro i hi acc ha
   have h1:=hw i (by omega)
   obtain ⟨w,hw2⟩:=Int.eq_ofNat_of_zero_le (show 0≤(aV q (i:Int)).f2 by omega)
   refine aZ ?_
   simp only [dK.l0,if_pos (show (i:Int) < (q.length:Int) by omega),tZ]
   rw [hw2,Int.toNat_natCast]
   exact inner i (tZ q d (i + 1)) w (by omega) hw2 (by omega) (fun acc ha=>by rw [eP i (by omega)];exact ih (i + 1) (by omega) acc (by omega)) w 0 (by omega) acc (by omega)
 have:=main q.length 0 (by omega) [] (by simp)
 rw [List.nil_append] at this
 exact this
theorem aBR (q:List eS) (n:Nat):∀ t,xK q 0 (zN q n t) (List.replicate 8 0):=by
 intro t
 induction t with
 | zero=>exact rS _ _ _
 | succ t ih=>exact vX (zC q t q.length 0 (by omega) n _) ih
theorem aBG {q:List eS} {l:List bL} {ws:List Int} (ok:mM q l ws) (hK:∀ j:Nat,j < l.length → -9223372036854775808≤(aC l (j:Int)).f2∧(aC l (j:Int)).f2≤9223372036854775807) (n:Nat):strOfNums (wQ q l n)=ones (sQ q l q.length 0 n (List.replicate 8 0)):=by
 rw [← iN]
 congr 1
 unfold wQ sQ
 rw [List.map_map]
 refine List.map_congr_left fun t _=>?_
 have e:mU q l n t=zR l (pK q t q.length 0 n (List.replicate 8 0)):=by
  unfold mU zR
  simp only [zN]
  rw [aBK q t q.length 0 (by omega) n _ _ (aBR q n t)]
 have hb:=ok.rootBit hK n t
 rw [e] at hb ⊢
 show 48 + zR l _=nJ (zR l _ == 1)
 rcases hb with h|h <;> rw [h] <;> rfl
def HQ (l:List bL):List eS→List Int→Prop
 | [],xs=>(zR l xs == 1)=true
 | x :: q,xs=>if x.f0=true then ∀ y:Nat,y < 2 ^ x.f2.toNat→HQ l q (xs.set x.f1.toNat (y:Int)) else ∃ y:Nat,y < 2 ^ x.f2.toNat∧HQ l q (xs.set x.f1.toNat (y:Int))
theorem aDL (q:List eS) (l:List bL) (hw:∀ j:Nat,j < q.length→1≤(aV q (j:Int)).f2∧(aV q (j:Int)).f2≤8):∀ d i,i + d=q.length→∀ b:Nat,lY q d i=(b:Int)→∀ xs,(mB (tZ q d i) (sQ q l d i b xs)=true↔HQ l (q.drop i) xs):=by
 intro d
 induction d with
 | zero =>
  intro i hi b hb xs
  obtain rfl:b=0:=by simp only [lY] at hb;omega
  rw [List.drop_of_length_le (by omega)]
  simp only [tZ,mB,sQ,pK,HQ]
  exact Iff.rfl
 | succ d ih =>
  intro i hi b hb xs
  have h1:=hw i (by omega)
  have h3:=rG q hw d (i + 1) (by omega)
  simp only [lY] at hb
  obtain ⟨w,hw2⟩:=Int.eq_ofNat_of_zero_le (show 0≤(aV q (i:Int)).f2 by omega)
  obtain ⟨m,hm⟩:=Int.eq_ofNat_of_zero_le h3
  obtain rfl:b=w + m:=by omega
  have hslc:∀ x,x < 2 ^ w→uE (sQ q l (d + 1) i (w + m) xs) m x=sQ q l d (i + 1) m (xs.set (aV q (i:Int)).f1.toNat (x:Int)):=fun x hx=>aAS q hw l d i hi w m hw2 hm xs x hx
  have hx:q[i]=aV q (i:Int):=by rw [lP,dZ q i _ (by omega)]
  rw [List.drop_eq_getElem_cons (show i < q.length by omega),hx]
  simp only [tZ,HQ]
  rw [hw2,Int.toNat_natCast]
  cases hF:(aV q (i:Int)).f0 with
  | true =>
   rw [aAF _ m w _ (iQ q l (d + 1) i (w + m) xs),if_pos rfl]
   constructor
   ·intro h y hy
    have:=h y hy
    rw [hslc y hy] at this
    exact (ih (i + 1) (by omega) m hm _).1 this
   ·intro h y hy
    rw [hslc y hy]
    exact (ih (i + 1) (by omega) m hm _).2 (h y hy)
  | false =>
   rw [aAG _ m w _ (iQ q l (d + 1) i (w + m) xs),if_neg (by decide)]
   constructor
   ·rintro ⟨y,hy,h⟩
    rw [hslc y hy] at h
    exact ⟨y,hy,(ih (i + 1) (by omega) m hm _).1 h⟩
   ·rintro ⟨y,hy,h⟩
    exact ⟨y,hy,by rw [hslc y hy];exact (ih (i + 1) (by omega) m hm _).2 h⟩
theorem aEG (xs:List Int) (v:Nat) (y K:Int) (h:K.toNat≠v):rd (xs.set v y) K=rd xs K:=by
 unfold rd
 rw [List.getD_eq_getElem?_getD,List.getElem?_set,if_neg (fun e=>h e.symm),← List.getD_eq_getElem?_getD]
theorem uI (l:List bL) (hT:fN l=true):∀ j:Nat,j < l.length → -9223372036854775808≤(aC l (j:Int)).f2∧(aC l (j:Int)).f2≤9223372036854775807:=by
 intro j hj
 have h:=sK l hT j hj
 generalize aC l (j:Int)=x at h
 generalize l.take j=L at h
 unfold nG at h
 simp only [Bool.and_eq_true,decide_eq_true_eq] at h
 obtain ⟨hW,hO,hU,_,hop⟩:=h
 by_cases h0:x.f0=0
 ·unfold mL at hop
  rw [if_pos h0] at hop
  unfold iA at hop
  have h1:=of_decide_eq_true hop
  obtain ⟨w,hw⟩:=Int.eq_ofNat_of_zero_le (show 0≤x.f1 by omega)
  rw [hw,Int.toNat_natCast] at h1
  have:=(gG w (by omega)).2
  omega
 by_cases h1:x.f0=1
 ·unfold mL at hop
  rw [if_neg h0,if_pos h1] at hop
  have:=of_decide_eq_true hop
  omega
 by_cases h17:x.f0=17
 ·unfold mL at hop
  rw [if_neg h0,if_neg h1,if_neg (by omega),if_neg (by omega),if_neg (by omega),if_neg (by omega),if_pos h17] at hop
  have h2:=of_decide_eq_true hop
  have h3:wrap64 (w3 L (np x) 0 - x.f1)≤9223372036854775807:=by unfold wrap64;omega
  omega
 by_cases hq:qu x.f0=true
 ·have hq2:=(jN _).1 hq
  unfold mL at hop
  rw [if_neg h0,if_neg h1,if_neg (by omega),if_neg (by omega),if_neg (by omega),if_neg (by omega),if_neg h17,if_neg (by omega)] at hop
  rw [Bool.and_eq_true] at hop
  have:=of_decide_eq_true hop.1
  omega
 ·have hz:x.f2=0:=by
   unfold gO at hU
   rw [if_neg (by omega),if_neg h17,if_neg hq] at hU
   repeat' split at hU
   all_goals simp only [Bool.and_eq_true,beq_iff_eq] at hU
   all_goals first|exact hU|exact hU.1
  omega
theorem xC (o W K A B C A' B' C' w a b c:Int) (hK : -9223372036854775808≤K∧K≤9223372036854775807):vO o W K A B C w a b c=vO o W K A' B' C' w a b c:=by
 refine mC (nD o W K A B C w a b c hK).2 (rT (fun k=>?_) (nD o W K A' B' C' w a b c hK).2)
 rw [apS,apS]
 cases k with
 | zero=>rfl
 | succ k=>rfl
def fz (ws:List Int) (v:Nat) (s:Int):Prop:=s=0∨(1≤rd ws (v:Int)∧rd ws (v:Int)≤8)∧s=((2 ^ (rd ws (v:Int)).toNat:Nat):Int)
structure fzR (ws:List Int) (row:List Int):Prop where
 len:row.length=8
 at_:∀ v:Nat,v < 8→fz ws v (rd row (v:Int))
def fzs (ws:List Int) (R:List (List Int)):Prop:=∀ p:Nat,p < R.length→fzR ws (R.getD p [])
theorem aFU {ws:List Int} {v:Nat} {a b:Int} (ha:fz ws v a) (hb:fz ws v b):fz ws v (Go.bits .or .i64 a b):=by
 have h8:∀ n:Nat,n≤8→2 ^ n < 2 ^ 62:=fun n h=>Nat.pow_lt_pow_right (by decide) (by omega)
 have h0:(0:Nat) < 2 ^ 62:=by decide
 rcases ha with rfl | ⟨h1,rfl⟩
 ·rcases hb with rfl | ⟨h2,rfl⟩
  ·exact Or.inl (by decide +kernel)
  ·refine Or.inr ⟨h2,?_⟩
   have:=qS 0 (2 ^ (rd ws (v:Int)).toNat) h0 (h8 _ (by omega))
   rw [Nat.zero_or] at this
   exact this
 ·refine Or.inr ⟨h1,?_⟩
  rcases hb with rfl | ⟨h2,rfl⟩
  ·have:=qS (2 ^ (rd ws (v:Int)).toNat) 0 (h8 _ (by omega)) h0
   rw [Nat.or_zero] at this
   exact this
  ·have:=qS (2 ^ (rd ws (v:Int)).toNat) (2 ^ (rd ws (v:Int)).toNat) (h8 _ (by omega)) (h8 _ (by omega))
   rw [Nat.or_self] at this
   exact this
theorem xT {ws:List Int} {R:List (List Int)} {row:List Int} (h:fzs ws R) (hr:fzR ws row):fzs ws (R ++ [row]):=by
 intro p hp
 rw [List.length_append,List.length_singleton] at hp
 rw [List.getD_eq_getElem?_getD]
 by_cases c:p < R.length
 ·rw [List.getElem?_append_left c,← List.getD_eq_getElem?_getD]
  exact h p c
 ·rw [List.getElem?_append_right (by omega),show p - R.length=0 by omega]
  exact hr
theorem vH (w:Int) (h:1≤w∧w≤8):Ev (fun k=>aH.f k w) ((2 ^ w.toNat:Nat):Int):=by
 obtain ⟨n,rfl⟩:=Int.eq_ofNat_of_zero_le (show 0≤w by omega)
 exact jT n (fun k hk=>by rw [jU n (by omega) k hk,Int.toNat_natCast];norm_cast)
theorem aEA {x:bL} {p:Nat} (h:p < (np x).length):rd (np x) (p:Int)∈np x:=by
 rw [eO,dZ _ p _ h]
 exact List.getElem_mem h
theorem aAN:∀ n:Fin 9,∀ w:Fin 9,1≤n.val→1≤w.val→Int.tmod (wrap64 (Int.tdiv ((2 ^ n.val:Nat):Int) ((2 ^ w.val:Nat):Int))) 2=1→n=w:=by decide +kernel
section
variable (l:List bL) (hT:fN l=true) (ws:List Int) (hv:∀ j:Nat,j < l.length→(aC l (j:Int)).f0=1→rd ws (aC l (j:Int)).f2=(aC l (j:Int)).f1) (hq:∀ j:Nat,j < l.length→qu (aC l (j:Int)).f0=true→rd ws (aC l (j:Int)).f2=(aC l (j:Int)).f4) (e:List Int) (he:e.length=8) (hE:kA ws e)
include hT hE he
theorem aGX (R:List (List Int)) (hR:R.length=l.length) (hZ:fzs ws R):∀ d v:Nat,v + d=8→Ev (fun k=>aK.l3 k l e R (v:Int)) true:=by
 have hp:=fF hT
 have hl8:=iF hT
 have hw:wrap64 ((l.length:Int) - 1)=((l.length - 1:Nat):Int):=by rw [jR (by omega) (by omega)];omega
 have hr:=hZ (l.length - 1) (by omega)
 have hlen:(eN R ((l.length - 1:Nat):Int)).length=8:=hr.len
 intro d
 induction d with
 | zero =>
  intro v hv
  obtain rfl:v=8:=by omega
  refine aZ ?_
  simp only [aK.l3,if_neg (show ¬ ((8:Nat):Int) < 8 by decide)]
  exact bA _
 | succ d ih =>
  intro v hv
  have e3:=ih (v + 1) (by omega)
  have hs:fz ws v (rd (eN R ((l.length - 1:Nat):Int)) (v:Int)):=hr.at_ v (by omega)
  have inner:∀ d w:Nat,w + d=9→1≤w→Ev (fun k=>aK.l4 k l e R (v:Int) (w:Int)) true:=by
   intro d
   induction d with
   | zero =>
    intro w hw9 _
    obtain rfl:w=9:=by omega
    refine aZ ?_
    simp only [aK.l4,if_neg (show ¬ ((9:Nat):Int)≤8 by decide),eP v (show v < 4611686018427387904 by omega)]
    exact e3
   | succ d ih2 =>
    intro w hw9 hw1
    have e4:=ih2 (w + 1) (by omega) (by omega)
    refine aZ ?_
    simp only [aK.l4,if_pos (show (w:Int)≤8 by omega),hw,if_pos (show (0:Int)≤((l.length - 1:Nat):Int) by omega),if_pos (show ((l.length - 1:Nat):Int) < (R.length:Int) by omega),if_pos (show 0≤(v:Int) by omega),hlen,if_pos (show (v:Int) < ((8:Nat):Int) by omega)]
    refine bC (vH (w:Int) (by omega)) ?_
    have h0:¬ ((2 ^ (w:Int).toNat:Nat):Int)=0:=by have:=Nat.two_pow_pos (w:Int).toNat;omega
    simp only [if_neg h0,eP w (show w < 4611686018427387904 by omega)]
    by_cases c:Int.tmod (wrap64 (Int.tdiv (rd (eN R ((l.length - 1:Nat):Int)) (v:Int)) ((2 ^ (w:Int).toNat:Nat):Int))) 2=1
    ·simp only [if_pos c,he,if_pos (show (v:Int) < ((8:Nat):Int) by omega)]
     have hok:Ev (fun k=>bT.f k (w:Int) (rd e (v:Int))) true:=by
      have h1:=kU w (by omega) (by omega) (rd e (v:Int))
      have h2:iA w (rd e (v:Int))=true:=by
       rcases hs with h | ⟨h,h3⟩
       ·rw [h,Int.zero_tdiv] at c
        exact absurd c (by decide +kernel)
       ·obtain ⟨n,hn⟩:=Int.eq_ofNat_of_zero_le (show 0≤rd ws (v:Int) by omega)
        rw [hn] at h h3
        rw [h3,Int.toNat_natCast,Int.toNat_natCast] at c
        have:=aAN ⟨n,by omega⟩ ⟨w,by omega⟩ (by show 1≤n;omega) hw1 c
        have hnw:n=w:=congrArg Fin.val this
        have h5:=hE v (by omega)
        rw [hn,hnw] at h5
        unfold lE at h5
        rw [Int.toNat_natCast] at h5
        exact decide_eq_true h5
      rw [h2] at h1
      exact h1
     refine bC hok ?_
     simp only [if_true]
     exact e4
    ·simp only [if_neg c]
     exact e4
  refine aZ ?_
  simp only [aK.l3,if_pos (show (v:Int) < 8 by omega)]
  exact inner 8 1 (by omega) (by omega)
end
section
variable (l:List bL) (hT:fN l=true) (ws:List Int) (hv:∀ j:Nat,j < l.length→(aC l (j:Int)).f0=1→rd ws (aC l (j:Int)).f2=(aC l (j:Int)).f1) (hq:∀ j:Nat,j < l.length→qu (aC l (j:Int)).f0=true→rd ws (aC l (j:Int)).f2=(aC l (j:Int)).f4) (e:List Int) (he:e.length=8) (hE:kA ws e)
include hT hv hq
theorem aGW (R:List (List Int)) (i:Nat) (hi:i < l.length) (hR:R.length=i) (hZ:fzs ws R) (X:Bool) (hX:∀ row,fzR ws row→Ev (fun k=>aK.l0 k l e (R ++ [row]) ((i + 1:Nat):Int)) X) :
  ∀ d v:Nat,v + d=8→∀ row:List Int,row.length=v→(∀ u:Nat,u < v→fz ws u (rd row (u:Int)))→Ev (fun k=>aK.l1 k l e R (i:Int) row (np (aC l (i:Int))) (v:Int) (aC l (i:Int)).f0 (aC l (i:Int)).f1 (aC l (i:Int)).f2 (aC l (i:Int)).f3 (aC l (i:Int)).f4 (aC l (i:Int)).f5) X:=by
 have hl8:=iF hT
 have hpp:=dD l hT i hi
 have hnp:(np (aC l (i:Int))).length≤3:=by
  rcases gZ (aC l (i:Int)) with ⟨e,_⟩ | ⟨e,_⟩ | ⟨e,_⟩ | ⟨e,_⟩ <;> rw [e] <;> simp
 intro d
 induction d with
 | zero =>
  intro v h8 row hl hz
  obtain rfl:v=8:=by omega
  refine aZ ?_
  simp only [aK.l1,if_neg (show ¬ ((8:Nat):Int) < 8 by decide),if_pos (show R.length < 5864062014805 by omega),eP i (show i < 4611686018427387904 by omega)]
  exact hX row ⟨hl,hz⟩
 | succ d ih =>
  intro v h8 row hl hz
  have next:∀ s,fz ws v s→Ev (fun k=>aK.l1 k l e R (i:Int) (row ++ [s]) (np (aC l (i:Int))) ((v + 1:Nat):Int) (aC l (i:Int)).f0 (aC l (i:Int)).f1 (aC l (i:Int)).f2 (aC l (i:Int)).f3 (aC l (i:Int)).f4 (aC l (i:Int)).f5) X:=fun s hs=>ih (v + 1) (by omega) _ (by simp [hl]) (fun u hu=>by
   rcases Nat.lt_succ_iff_lt_or_eq.1 hu with h|rfl
   ·rw [yR row s (u:Int) (by omega) (by omega)]
    exact hz u h
   ·rw [← hl,rA,hl]
    exact hs)
  have hlr:row.length < 17592186044416:=by omega
  have j5:∀ s b,fz ws v s→(b=true→qu (aC l (i:Int)).f0=true∧(aC l (i:Int)).f2=(v:Int))→Ev (fun k=>aK.j5 k l e R (i:Int) row (np (aC l (i:Int))) (v:Int) s b (aC l (i:Int)).f0 (aC l (i:Int)).f1 (aC l (i:Int)).f2 (aC l (i:Int)).f3 (aC l (i:Int)).f4 (aC l (i:Int)).f5) X:=fun s b hs hb=>by
   refine aZ ?_
   cases b with
   | false =>
    simp only [aK.j5,Bool.false_eq_true,if_false,if_pos hlr,eP v (show v < 4611686018427387904 by omega)]
    exact next s hs
   | true =>
    obtain ⟨b1,b2⟩:=hb rfl
    have hz0:fz ws v 0:=Or.inl rfl
    by_cases c:s=0
    ·simp only [aK.j5,if_true,if_pos c,if_pos hlr,eP v (show v < 4611686018427387904 by omega)]
     exact next 0 hz0
    ·simp only [aK.j5,if_true,if_neg c]
     have hqi:=iZ l hT i hi b1
     have hw:=hq i hi b1
     rw [b2] at hw
     refine bC (vH _ hqi.2.1) ?_
     rcases hs with h | ⟨_,h⟩
     ·exact absurd h c
     ·rw [hw] at h
      simp only [if_pos h,if_pos hlr,eP v (show v < 4611686018427387904 by omega)]
      exact next 0 hz0
  have l2:∀ d j:Nat,j + d=(np (aC l (i:Int))).length→∀ s,fz ws v s→Ev (fun k=>aK.l2 k l e R (i:Int) row (np (aC l (i:Int))) (v:Int) s (j:Int) (aC l (i:Int)).f0 (aC l (i:Int)).f1 (aC l (i:Int)).f2 (aC l (i:Int)).f3 (aC l (i:Int)).f4 (aC l (i:Int)).f5) X:=by
   intro d
   induction d with
   | zero =>
    intro j hj s hs
    refine aZ ?_
    simp only [aK.l2,if_neg (show ¬ (j:Int) < ((np (aC l (i:Int))).length:Int) by omega),quS,Option.bind_some]
    by_cases c:qu (aC l (i:Int)).f0=true
    ·simp only [if_pos c]
     exact j5 s _ hs (fun h=>⟨c,beq_iff_eq.1 h⟩)
    ·simp only [if_neg c]
     exact j5 s false hs (fun h=>by cases h)
   | succ d ih2 =>
    intro j hj s hs
    have hm:=aEA (x:=aC l (i:Int)) (p:=j) (by omega)
    have hb:=hpp _ hm
    obtain ⟨p,hp⟩:=Int.eq_ofNat_of_zero_le hb.1
    have hrow:=hZ p (by omega)
    have hlen:(eN R (rd (np (aC l (i:Int))) (j:Int))).length=8:=by rw [hp];exact hrow.len
    have hz2:fz ws v (rd (eN R (rd (np (aC l (i:Int))) (j:Int))) (v:Int)):=by rw [hp];exact hrow.at_ v (by omega)
    have e2:=ih2 (j + 1) (by omega) _ (aFU hs hz2)
    refine aZ ?_
    simp only [aK.l2,if_pos (show (j:Int) < ((np (aC l (i:Int))).length:Int) by omega),if_pos (show 0≤(j:Int) by omega),if_pos hb.1,if_pos (show rd (np (aC l (i:Int))) (j:Int) < (R.length:Int) by omega),if_pos (show (0:Int)≤(v:Int) by omega),hlen,if_pos (show (v:Int) < ((8:Nat):Int) by omega),eP j (show j < 4611686018427387904 by omega)]
    exact e2
  have j2:∀ b,(b=true→(aC l (i:Int)).f0=1∧(aC l (i:Int)).f2=(v:Int))→Ev (fun k=>aK.j2 k l e R (i:Int) row (np (aC l (i:Int))) (v:Int) 0 b (aC l (i:Int)).f0 (aC l (i:Int)).f1 (aC l (i:Int)).f2 (aC l (i:Int)).f3 (aC l (i:Int)).f4 (aC l (i:Int)).f5) X:=fun b hb=>by
   have j3:∀ s,fz ws v s→Ev (fun k=>aK.j3 k l e R (i:Int) row (np (aC l (i:Int))) (v:Int) s (aC l (i:Int)).f0 (aC l (i:Int)).f1 (aC l (i:Int)).f2 (aC l (i:Int)).f3 (aC l (i:Int)).f4 (aC l (i:Int)).f5) X:=fun s hs=>aZ (by simp only [aK.j3];exact l2 (np (aC l (i:Int))).length 0 (by omega) s hs)
   refine aZ ?_
   cases b with
   | false =>
    simp only [aK.j2,Bool.false_eq_true,if_false]
    exact j3 0 (Or.inl rfl)
   | true =>
    obtain ⟨b1,b2⟩:=hb rfl
    have hw:=hv i hi b1
    rw [b2] at hw
    have hn:=tO l hT i hi
    simp only [aK.j2,if_true]
    refine bC (vH _ hn) ?_
    exact j3 _ (Or.inr ⟨by rw [hw];exact hn,by rw [hw]⟩)
  refine aZ ?_
  by_cases c:(aC l (i:Int)).f0=1
  ·simp only [aK.l1,if_pos (show (v:Int) < 8 by omega),if_pos c]
   exact j2 _ (fun h=>⟨c,beq_iff_eq.1 h⟩)
  ·simp only [aK.l1,if_pos (show (v:Int) < 8 by omega),if_neg c]
   exact j2 false (fun h=>by cases h)
include hE he
theorem aAK:Ev (fun k=>aK.f k l e) true:=by
 have hl8:=iF hT
 have main:∀ d i,i + d=l.length→∀ R:List (List Int),R.length=i→fzs ws R→Ev (fun k=>aK.l0 k l e R (i:Int)) true:=by
  intro d
  induction d with
  | zero =>
   intro i hi R hR hZ
   refine aZ ?_
   simp only [aK.l0,if_neg (show ¬ (i:Int) < (l.length:Int) by omega)]
   exact aGX l hT ws e he hE R (by omega) hZ 8 0 (by omega)
  | succ d ih =>
   intro i hi R hR hZ
   refine aZ ?_
   simp only [aK.l0,if_pos (show (i:Int) < (l.length:Int) by omega),if_pos (show 0≤(i:Int) by omega)]
   refine bC (nQ _) ?_
   exact aGW l hT ws hv hq e R i (by omega) hR hZ true (fun row hr=>ih (i + 1) (by omega) _ (by simp [hR]) (xT hZ hr)) 8 0 (by omega) [] rfl (fun u hu=>by omega)
 exact main l.length 0 (by omega) [] rfl (fun p hp=>by simp at hp)
end
theorem aFX (φ:Int→Int) (x:bL):nB (mv φ x)=nB x:=by
 unfold nB
 by_cases c:x.f0=19∨x.f0=20
 ·have h:(mv φ x).f4=x.f4:=by
   have hq:np x=[x.f3]:=by unfold np parts;rw [if_pos (Or.inr (Or.inr ((jN _).2 c)))]
   unfold mv
   rw [hq]
   simp
  rw [if_pos (show (mv φ x).f0=19∨(mv φ x).f0=20 from c),if_pos c,h]
 ·rw [if_neg (show ¬ ((mv φ x).f0=19∨(mv φ x).f0=20) from c),if_neg c]
theorem yM {l r:List bL} {pl:List Int} (V:prV l l.length r pl):qB r≤qB l:=by
 have h:∀ i:Nat,∃ p:Nat,i < r.length→p < l.length∧rd pl (p:Int)=(i:Int)∧nB (aC r (i:Int))=nB (aC l (p:Int)):=fun i=>by
  by_cases c:i < r.length
  ·obtain ⟨p,h1,_,h3,h4⟩:=V.of i c
   exact ⟨p,fun _=>⟨h1,h3,by rw [h4,aFX]⟩⟩
  ·exact ⟨0,fun h=>absurd h c⟩
 obtain ⟨g,hg⟩:=Classical.axiomOfChoice h
 have hnd:((List.range r.length).map g).Nodup:=by
  show List.Pairwise (· ≠ ·) _
  rw [List.pairwise_map]
  refine List.Pairwise.imp_of_mem (fun {a b} ha hb hab e=>?_) (List.nodup_range (n:=r.length))
  have h1:=hg a (List.mem_range.1 ha)
  have h2:=hg b (List.mem_range.1 hb)
  rw [e,h2.2.1] at h1
  exact hab (by omega)
 have e1:qB r=(((List.range r.length).map g).map fun p:Nat=>nB (aC l (p:Int))).sum:=by
  unfold qB
  congr 1
  rw [List.map_map]
  refine List.ext_getElem (by simp) (fun i h1 h2=>?_)
  rw [List.length_map] at h1
  rw [List.getElem_map,List.getElem_map,List.getElem_range]
  show _=nB (aC l ((g i:Nat):Int))
  rw [← (hg i h1).2.2,jF,dZ r i _ h1]
 rw [e1,lI (fun p:Nat=>nB (aC l (p:Int))) l.length _ (fun j hj=>by
  obtain ⟨i,hi,rfl⟩:=List.mem_map.1 hj
  exact (hg i (List.mem_range.1 hi)).1),aCG]
 refine vJ l.length (fun j _=>?_)
 have:=Nat.mul_le_mul_right (nB (aC l (j:Int))) (List.nodup_iff_count.1 hnd j)
 rw [Nat.one_mul] at this
 exact this
noncomputable def vS (x:bL) (w:Int) (g:Nat→List Int→Int) (e:List Int):Int :=
 if x.f0=1 then rd e x.f2 else if qu x.f0=true then nE (if x.f0=19 then (List.range (2 ^ x.f4.toNat)).all fun y=>g 0 (e.set x.f2.toNat (y:Int)) == 1 else (List.range (2 ^ x.f4.toNat)).any fun y=>g 0 (e.set x.f2.toNat (y:Int)) == 1)
 else vO x.f0 x.f1 x.f2 x.f3 x.f4 x.f5 w (if 0 < (np x).length then g 0 e else 0) (if 1 < (np x).length then g 1 e else 0) (if 2 < (np x).length then g 2 e else 0)
noncomputable def vq (l:List bL):Nat→Nat→List Int→Int
 | 0,_,_=>0
 | d + 1,i,e=>vS (aC l (i:Int)) (oC l (np (aC l (i:Int)))) (fun p e'=>vq l d (rd (np (aC l (i:Int))) (p:Int)).toNat e') e
noncomputable abbrev VQ (l:List bL) (i:Nat) (e:List Int):Int:=vq l l.length i e
theorem lW {x:bL} {p:Nat} (h:p < (np x).length):rd (np x) (p:Int)∈np x:=by
 rw [eO,dZ _ p _ h]
 exact List.getElem_mem h
theorem oQ {x:bL} (h:qu x.f0=true):np x=[x.f3]:=by
 unfold np parts
 rw [if_pos (Or.inr (Or.inr h))]
theorem oY {x x':bL} {w w':Int} {g g':Nat→List Int→Int} (h0:x'.f0=x.f0) (h1:x'.f1=x.f1) (h2:x'.f2=x.f2) (h4:qu x.f0=true→x'.f4=x.f4) (hn:(np x').length=(np x).length) (hw:w'=w) (hK : -9223372036854775808≤x.f2∧x.f2≤9223372036854775807)
  (hg:∀ p,p < (np x).length→∀ e,g' p e=g p e) (e:List Int):vS x' w' g' e=vS x w g e:=by
 unfold vS
 rw [h0,h1,h2,hn,hw]
 by_cases c1:x.f0=1
 ·rw [if_pos c1,if_pos c1]
 rw [if_neg c1,if_neg c1]
 by_cases cq:qu x.f0=true
 ·rw [if_pos cq,if_pos cq,h4 cq]
  have h:=hg 0 (by rw [oQ cq];exact Nat.one_pos)
  simp only [h]
 rw [if_neg cq,if_neg cq]
 have part:∀ p,(if p < (np x).length then g' p e else 0)=(if p < (np x).length then g p e else 0):=fun p=>by
  by_cases c:p < (np x).length
  ·rw [if_pos c,if_pos c,hg p c]
  ·rw [if_neg c,if_neg c]
 rw [part 0,part 1,part 2]
 exact xC _ _ _ _ _ _ _ _ _ _ _ _ _ hK
theorem aBO {l:List bL} (hT:fN l=true):∀ d d' i,i < d→i < d'→i < l.length→∀ e,vq l d i e=vq l d' i e:=by
 intro d
 induction d with
 | zero=>intro d' i h;omega
 | succ d ih =>
  intro d' i h h' hi e
  obtain ⟨d',rfl⟩:∃ c,d'=c + 1:=⟨d' - 1,by omega⟩
  simp only [vq]
  refine oY rfl rfl rfl (fun _=>rfl) rfl rfl (uI l hT i hi) (fun p hp e=>?_) e
  have:=dD l hT i hi _ (lW hp)
  exact ih d' _ (by omega) (by omega) (by omega) e
theorem lF {l:List bL} (hT:fN l=true) (i:Nat) (hi:i < l.length) (e:List Int):VQ l i e=vS (aC l (i:Int)) (oC l (np (aC l (i:Int)))) (fun p e'=>VQ l (rd (np (aC l (i:Int))) (p:Int)).toNat e') e:=by
 have h:VQ l i e=vq l (l.length + 1) i e:=aBO hT _ _ i hi (by omega) hi e
 rw [h]
 rfl
theorem zK {l r:List bL} {x:bL} {φ:Int→Int} (h:∀ p∈np x,(aC r (φ p)).f1=(aC l p).f1):oC r (np (mv φ x))=oC l (np x):=by
 unfold oC
 rw [mS,List.length_map]
 by_cases c:0 < (np x).length
 ·rw [if_pos c,if_pos c]
  have e0:rd ((np x).map φ) 0=φ (rd (np x) 0):=by
   show rd _ ((0:Nat):Int)=φ (rd _ ((0:Nat):Int))
   rw [eO,eO,dZ _ 0 _ (by rw [List.length_map];exact c),dZ _ 0 _ c,List.getElem_map]
  rw [e0]
  exact h _ (lW (p:=0) c)
 ·rw [if_neg c,if_neg c]
theorem aCC {x:bL} (φ:Int→Int) (h:qu x.f0=true):(mv φ x).f4=x.f4:=by
 unfold mv
 rw [oQ h]
 simp
theorem sX {l r:List bL} (hT:fN l=true) (hTr:fN r=true) (φ:Int→Int) (P:Nat→Prop) (h:∀ p:Nat,p < l.length→P p→(0≤φ (p:Int)∧φ (p:Int) < (r.length:Int))∧aC r (φ (p:Int))=mv φ (aC l (p:Int))∧∀ c∈np (aC l (p:Int)),P c.toNat) :
  ∀ p:Nat,p < l.length→P p→∀ e,VQ r (φ (p:Int)).toNat e=VQ l p e:=by
 intro p
 induction p using Nat.strongRecOn with|ind p ih =>
 intro hp hP e
 obtain ⟨hb,hx,hc⟩:=h p hp hP
 obtain ⟨j,hj⟩:=Int.eq_ofNat_of_zero_le hb.1
 have hpp:=dD l hT p hp
 rw [hj] at hx hb ⊢
 have hw:oC r (np (mv φ (aC l (p:Int))))=oC l (np (aC l (p:Int))):=zK (fun c hm=>by
  have:=hpp c hm
  have h2:=hc _ hm
  obtain ⟨z,rfl⟩:=Int.eq_ofNat_of_zero_le this.1
  rw [Int.toNat_natCast] at h2
  rw [(h z (by omega) h2).2.1]
  rfl)
 have hn:(np (mv φ (aC l (p:Int)))).length=(np (aC l (p:Int))).length:=by rw [mS,List.length_map]
 have key:∀ q,q < (np (aC l (p:Int))).length→∀ e,VQ r (rd (np (mv φ (aC l (p:Int)))) (q:Int)).toNat e=VQ l (rd (np (aC l (p:Int))) (q:Int)).toNat e:=fun q hq e=>by
  have hm:=lW hq
  have:=hpp _ hm
  have e0:rd (np (mv φ (aC l (p:Int)))) (q:Int)=φ (rd (np (aC l (p:Int))) (q:Int)):=by
   rw [mS,eO,eO,dZ _ q _ (by rw [List.length_map];exact hq),dZ _ q _ hq,List.getElem_map]
  have hPc:=hc _ hm
  rw [e0]
  generalize rd (np (aC l (p:Int))) (q:Int)=c at *
  obtain ⟨z,rfl⟩:=Int.eq_ofNat_of_zero_le this.1
  rw [Int.toNat_natCast] at hPc ⊢
  exact ih z (by omega) (by omega) hPc e
 rw [Int.toNat_natCast,lF hTr j (by omega),lF hT p hp,hx]
 exact oY (x:=aC l (p:Int)) (x':=mv φ (aC l (p:Int))) rfl rfl rfl (fun c=>aCC φ c) hn hw (uI l hT p hp) key e
theorem rN {l r:List bL} {pl:List Int} (hT:fN l=true) (hTr:fN r=true) (V:prV l l.length r pl) (e:List Int):VQ r (r.length - 1) e=VQ l (l.length - 1) e:=by
 have hp:=fF hT
 have hpr:=fF hTr
 have h:=sX hT hTr (rd pl) (fun p=>cL false (hG l) (p:Int)=true) (fun p hp hm=>⟨(V.at_ p hp hm).1,(V.at_ p hp hm).2,fun c hc=>by
  have h1:=iL l hT p hp hm c hc
  have h2:=dD l hT p hp c hc
  obtain ⟨z,rfl⟩:=Int.eq_ofNat_of_zero_le h2.1
  exact h1⟩) (l.length - 1) (by omega) (iV l hp) e
 rw [V.last (l.length - 1) (by omega) (iV l hp),show ((r.length:Int) - 1).toNat=r.length - 1 from by omega] at h
 exact h
theorem wY {r:List bL} (hT:fN r=true) (hq:∀ j:Nat,j < r.length→qu (aC r (j:Int)).f0=false) (e:List Int):∀ i,i < r.length→VQ r i e=(gD r e r.length).getD i 0:=by
 intro i
 induction i using Nat.strongRecOn with|ind i ih =>
 intro hi
 rw [lS r e i r.length hi,lF hT i hi]
 unfold tQ vS
 by_cases h1:(aC r (i:Int)).f0=1
 ·rw [if_pos h1,if_pos h1]
 rw [if_neg h1,if_neg h1,if_neg (by rw [hq i hi];decide)]
 have hpp:=dD r hT i hi
 have part:∀ q:Nat,(if q < (np (aC r (i:Int))).length then VQ r (rd (np (aC r (i:Int))) (q:Int)).toNat e else 0)=v3 (gD r e i) (np (aC r (i:Int))) q:=fun q=>by
  unfold v3
  by_cases c:q < (np (aC r (i:Int))).length
  ·rw [if_pos c,if_pos c]
   have:=hpp _ (lW c)
   generalize rd (np (aC r (i:Int))) (q:Int)=z at *
   obtain ⟨z,rfl⟩:=Int.eq_ofNat_of_zero_le this.1
   rw [Int.toNat_natCast,ih z (by omega) (by omega),eO]
   exact oZ r e z _ _ (by omega) (by omega)
  ·rw [if_neg c,if_neg c]
 rw [part 0,part 1,part 2]
theorem zV {r:List bL} (hT:fN r=true) (hq:∀ j:Nat,j < r.length→qu (aC r (j:Int)).f0=false) (e:List Int):VQ r (r.length - 1) e=zR r e:=by
 have hp:=fF hT
 rw [wY hT hq e _ (by omega),zR,show ((r.length:Int) - 1)=((r.length - 1:Nat):Int) from by omega,eO]
theorem aDA (b:Bool):nE b=0∨nE b=1:=by cases b <;> simp [nE]
theorem aBU {l:List bL} (hT:fN l=true) (ws:List Int) (P:Nat→Prop) (hP:∀ i:Nat,i < l.length→P i→∀ p∈np (aC l (i:Int)),P p.toNat)
  (hv:∀ j:Nat,j < l.length→P j→(aC l (j:Int)).f0=1→rd ws (aC l (j:Int)).f2=(aC l (j:Int)).f1) (xs:List Int) (he:kA ws xs) :
  ∀ i:Nat,i < l.length→P i→lE (aC l (i:Int)).f1 (VQ l i xs):=by
 intro i
 induction i using Nat.strongRecOn with|ind i ih =>
 intro hi hm
 rw [lF hT i hi]
 unfold vS
 by_cases h1:(aC l (i:Int)).f0=1
 ·rw [if_pos h1,← hv i hi hm h1]
  have hk:=lK l hT i hi h1
  obtain ⟨K,hK2⟩:=Int.eq_ofNat_of_zero_le hk.1
  rw [hK2] at hk ⊢
  exact he K (by omega)
 rw [if_neg h1]
 by_cases hq:qu (aC l (i:Int)).f0=true
 ·rw [if_pos hq]
  exact uW _ (tO l hT i hi).1 _ (aDA _)
 rw [if_neg hq]
 have hnd:=yG l hT i hi
 unfold nG at hnd
 simp only [Bool.and_eq_true,decide_eq_true_eq] at hnd
 obtain ⟨hW,ho,_,hpo,hop⟩:=hnd
 have hpp:=dD l hT i hi
 have hq2:(aC l (i:Int)).f0≠19∧(aC l (i:Int)).f0≠20:=by
  rw [jN] at hq
  omega
 have part:∀ q:Nat,lE (w3 (l.take i) (np (aC l (i:Int))) q) (if q < (np (aC l (i:Int))).length then VQ l (rd (np (aC l (i:Int))) (q:Int)).toNat xs else 0):=fun q=>by
  unfold w3
  by_cases h:q < (np (aC l (i:Int))).length
  ·rw [if_pos h,if_pos h]
   have hmem:=lW h
   have h2:=hpp _ hmem
   have h3:=hP i hi hm _ hmem
   rw [jO l i _ h2.1 (by omega)]
   generalize rd (np (aC l (i:Int))) (q:Int)=z at *
   obtain ⟨z,rfl⟩:=Int.eq_ofNat_of_zero_le h2.1
   rw [Int.toNat_natCast] at h3 ⊢
   exact ih z (by omega) (by omega) h3
  ·rw [if_neg h,if_neg h]
   exact gJ _
 refine xB _ _ _ _ _ _ _ _ _ _ _ _ _ (uI l hT i hi) hW ⟨ho.1,by omega,h1⟩ hop (fun h16=>?_) (part 0) (part 1) (part 2)
 have hnp:np (aC l (i:Int))=[(aC l (i:Int)).f3,(aC l (i:Int)).f4]:=by
  unfold np parts
  rw [if_neg (by rw [h16];decide),if_pos (by omega)]
 rw [hnp] at hpp ⊢
 have p0:=hpp (aC l (i:Int)).f3 (by simp)
 have p1:=hpp (aC l (i:Int)).f4 (by simp)
 have e0:w3 (l.take i) [(aC l (i:Int)).f3,(aC l (i:Int)).f4] 0=(aC l (aC l (i:Int)).f3).f1:=by
  simp [w3,rd]
  rw [jO l i _ p0.1 (by omega)]
 have e1:w3 (l.take i) [(aC l (i:Int)).f3,(aC l (i:Int)).f4] 1=(aC l (aC l (i:Int)).f4).f1:=by
  simp [w3,rd]
  rw [jO l i _ p1.1 (by omega)]
 rw [e0,e1]
 refine ⟨by simp [oC,rd],?_,?_⟩
 ·obtain ⟨j,hj⟩:=Int.eq_ofNat_of_zero_le p0.1
  rw [hj] at p0 ⊢
  exact tO l hT j (by omega)
 ·obtain ⟨j,hj⟩:=Int.eq_ofNat_of_zero_le p1.1
  rw [hj] at p1 ⊢
  exact tO l hT j (by omega)
def frT (l:List bL) (F:Nat→Nat→Bool):Prop:=∀ i,i < l.length→∀ v,v < 8→F i v=false→((aC l (i:Int)).f0=1→(aC l (i:Int)).f2≠(v:Int))∧∀ p∈np (aC l (i:Int)),F p.toNat v=false∨qu (aC l (i:Int)).f0=true∧(aC l (i:Int)).f2=(v:Int)
theorem aCR {l:List bL} (hT:fN l=true) {F:Nat→Nat→Bool} (hF:frT l F) (v:Nat) (hv:v < 8):∀ i,i < l.length→F i v=false→∀ (e:List Int) (y:Int),VQ l i (e.set v y)=VQ l i e:=by
 intro i
 induction i using Nat.strongRecOn with|ind i ih =>
 intro hi hf e y
 obtain ⟨hvar,hpt⟩:=hF i hi v hv hf
 have hpp:=dD l hT i hi
 rw [lF hT i hi,lF hT i hi]
 unfold vS
 by_cases h1:(aC l (i:Int)).f0=1
 ·rw [if_pos h1,if_pos h1]
  have:=lK l hT i hi h1
  exact aEG e v y _ (fun h=>hvar h1 (by omega))
 rw [if_neg h1,if_neg h1]
 by_cases hq:qu (aC l (i:Int)).f0=true
 ·rw [if_pos hq,if_pos hq]
  have hnp:=oQ hq
  have hm:=lW (x:=aC l (i:Int)) (p:=0) (by rw [hnp];exact Nat.one_pos)
  have hb:=hpp _ hm
  have key:∀ z:Int,VQ l (rd (np (aC l (i:Int))) ((0:Nat):Int)).toNat ((e.set v y).set (aC l (i:Int)).f2.toNat z)=VQ l (rd (np (aC l (i:Int))) ((0:Nat):Int)).toNat (e.set (aC l (i:Int)).f2.toNat z):=fun z=>by
   by_cases hK:(aC l (i:Int)).f2.toNat=v
   ·rw [hK,List.set_set]
   ·rw [List.set_comm _ _ (fun h=>hK h.symm)]
    have hpt0:=hpt _ hm
    generalize rd (np (aC l (i:Int))) ((0:Nat):Int)=c at *
    refine ih c.toNat (by omega) (by omega) ?_ _ _
    rcases hpt0 with h | ⟨_,h⟩
    ·exact h
    ·rw [h] at hK
     exact absurd (Int.toNat_natCast v) hK
  simp only [key]
 rw [if_neg hq,if_neg hq]
 have part:∀ q:Nat,(if q < (np (aC l (i:Int))).length then VQ l (rd (np (aC l (i:Int))) (q:Int)).toNat (e.set v y) else 0)=(if q < (np (aC l (i:Int))).length then VQ l (rd (np (aC l (i:Int))) (q:Int)).toNat e else 0):=fun q=>by
  by_cases c:q < (np (aC l (i:Int))).length
  ·rw [if_pos c,if_pos c]
   have hm:=lW c
   have hb:=hpp _ hm
   have hpt0:=hpt _ hm
   generalize rd (np (aC l (i:Int))) (q:Int)=z at *
   refine ih z.toNat (by omega) (by omega) ?_ _ _
   rcases hpt0 with h | ⟨h,_⟩
   ·exact h
   ·exact absurd h hq
  ·rw [if_neg c,if_neg c]
 rw [part 0,part 1,part 2]
theorem yU (e:List Int) (K:Int) (h:0≤K∧K < (e.length:Int)):e.set K.toNat (rd e K)=e:=by
 refine List.ext_getElem (by rw [List.length_set]) (fun i h1 h2=>?_)
 rw [List.getElem_set]
 by_cases c:K.toNat=i
 ·subst c
  rw [if_pos rfl]
  unfold rd
  exact dZ e K.toNat 0 h2
 ·rw [if_neg c]
theorem aCZ {l:List bL} (hT:fN l=true):∀ a:Nat,a < l.length→∀ e:List Int,e.length=8→Ev (fun k=>cV.l0 k l e (a:Int) [] 0) (VQ l a e,e):=by
 have hl8:=iF hT
 intro a
 induction a using Nat.strongRecOn with|ind a ih =>
 intro ha e he
 have hV:∀ i:Nat,((List.range i).map fun j=>VQ l j e).length=i:=fun i=>by simp
 have hVg:∀ i j:Nat,j < i→rd ((List.range i).map fun j=>VQ l j e) (j:Int)=VQ l j e:=fun i j h=>by
  rw [eO,dZ _ j _ (by rw [hV];exact h),List.getElem_map,List.getElem_range]
 have one:∀ i:Nat,i≤a→Ev (fun k=>dT.b k l e ((List.range i).map fun j=>VQ l j e) (i:Int)) (VQ l i e,e):=by
  intro i hia
  have hi:i < l.length:=by omega
  have hpp:=dD l hT i hi
  have hVe:=lF hT i hi e
  refine aZ ?_
  simp only [dT.b,if_pos (show 0≤(i:Int)∧(i:Int) < (l.length:Int) by omega)]
  by_cases h1:(aC l (i:Int)).f0=1
  ·have hx:=lK l hT i hi h1
   simp only [if_pos h1,if_pos (show 0≤(aC l (i:Int)).f2∧(aC l (i:Int)).f2 < (e.length:Int) by omega)]
   rw [hVe,vS,if_pos h1]
   exact bA _
  simp only [if_neg h1,quS,Option.bind_some]
  by_cases hq:qu (aC l (i:Int)).f0=true
  ·have hqu:=iZ l hT i hi hq
   have hnp:=hqu.2.2.1
   have hK:0≤(aC l (i:Int)).f2∧(aC l (i:Int)).f2 < (e.length:Int):=by omega
   simp only [if_pos hq,if_pos hK]
   have hb:=hpp (aC l (i:Int)).f3 (by rw [hnp];exact List.mem_singleton.2 rfl)
   obtain ⟨p,hp⟩:=Int.eq_ofNat_of_zero_le hb.1
   have hr0:rd (np (aC l (i:Int))) ((0:Nat):Int)=(p:Int):=by rw [hnp];exact hp
   obtain ⟨B,hB⟩:=Int.eq_ofNat_of_zero_le (show 0≤(aC l (i:Int)).f4 by omega)
   have hpw:=vH (aC l (i:Int)).f4 hqu.2.1
   have hVe2:VQ l i e=nE (if (aC l (i:Int)).f0=19 then (List.range (2 ^ (aC l (i:Int)).f4.toNat)).all fun y=>VQ l p (e.set (aC l (i:Int)).f2.toNat (y:Int)) == 1 else (List.range (2 ^ (aC l (i:Int)).f4.toNat)).any fun y=>VQ l p (e.set (aC l (i:Int)).f2.toNat (y:Int)) == 1):=by
    rw [hVe]
    unfold vS
    rw [if_neg h1,if_pos hq]
    simp only [hr0,Int.toNat_natCast]
   rw [hVe2]
   have hn:2 ^ (aC l (i:Int)).f4.toNat≤256:=Nat.le_trans (Nat.pow_le_pow_right (by decide) (show (aC l (i:Int)).f4.toNat≤8 by omega)) (by decide)
   generalize hnn:2 ^ (aC l (i:Int)).f4.toNat=n at hpw hn ⊢
   generalize hff:(fun y:Nat=>VQ l p (e.set (aC l (i:Int)).f2.toNat (y:Int)) == 1)=f
   have loop:∀ d j,j + d=n→∀ e1:List Int,e1.length=8→(∀ z:Int,e1.set (aC l (i:Int)).f2.toNat z=e.set (aC l (i:Int)).f2.toNat z)→Ev (fun k=>dT.l0 k l (aC l (i:Int)) e1 (rd e (aC l (i:Int)).f2) (nE ((List.range j).all f)) (nE ((List.range j).any f)) (j:Int)) (nE (if (aC l (i:Int)).f0=19 then (List.range n).all f else (List.range n).any f),e):=by
    intro d
    induction d with
    | zero =>
     intro j hj e1 he1 hs
     obtain rfl:j=n:=by omega
     refine aZ ?_
     simp only [dT.l0]
     refine bC hpw ?_
     simp only [if_neg (show ¬ (j:Int) < (j:Int) by omega),if_pos (show 0≤(aC l (i:Int)).f2∧(aC l (i:Int)).f2 < (e1.length:Int) by omega),hs,yU e _ hK]
     by_cases c:(aC l (i:Int)).f0=19
     ·simp only [if_pos c]
      exact bA _
     ·simp only [if_neg c]
      exact bA _
    | succ d ihd =>
     intro j hj e1 he1 hs
     have hat:=ih p (by omega) (by omega) (e.set (aC l (i:Int)).f2.toNat (j:Int)) (by rw [List.length_set];exact he)
     have hfj:f j=(VQ l p (e.set (aC l (i:Int)).f2.toNat (j:Int)) == 1):=by rw [← hff]
     have e2:=ihd (j + 1) (by omega) (e.set (aC l (i:Int)).f2.toNat (j:Int)) (by rw [List.length_set];exact he) (fun z=>List.set_set ..)
     rw [List.range_succ,List.all_append,List.any_append] at e2
     simp only [List.all_cons,List.all_nil,Bool.and_true,List.any_cons,List.any_nil,Bool.or_false] at e2
     refine aZ ?_
     simp only [dT.l0]
     refine bC hpw ?_
     simp only [if_pos (show (j:Int) < (n:Int) by omega),if_pos (show 0≤(aC l (i:Int)).f2∧(aC l (i:Int)).f2 < (e1.length:Int) by omega),hs,hp]
     refine bC hat ?_
     simp only [eP j (show j < 4611686018427387904 by omega)]
     by_cases c:VQ l p (e.set (aC l (i:Int)).f2.toNat (j:Int))=1
     ·have hft:f j=true:=by rw [hfj];exact beq_iff_eq.2 c
      rw [hft,Bool.and_true,Bool.or_true] at e2
      simp only [if_pos c]
      exact e2
     ·have hft:f j=false:=by rw [hfj];exact beq_eq_false_iff_ne.2 c
      rw [hft,Bool.and_false,Bool.or_false] at e2
      simp only [if_neg c]
      exact e2
   exact loop n 0 (by omega) e he (fun z=>rfl)
  ·simp only [if_neg hq]
   refine bC (nQ _) ?_
   refine bC (a:=(oC l (np (aC l (i:Int))),[v3 ((List.range i).map fun j=>VQ l j e) (np (aC l (i:Int))) 0,v3 ((List.range i).map fun j=>VQ l j e) (np (aC l (i:Int))) 1,v3 ((List.range i).map fun j=>VQ l j e) (np (aC l (i:Int))) 2])) ⟨4,fun k hk=>?_⟩ ?_
   ·obtain ⟨m,rfl⟩:∃ m,k=m + 4:=⟨k - 4,by omega⟩
    exact yI m l _ (by rw [hV];omega) _ _ _ _ (fun p hp=>by have:=hpp p hp;rw [hV];omega)
   ·refine bC (nD _ _ _ _ _ _ _ _ _ _ (uI l hT i hi)).2 ?_
    have part:∀ q:Nat,v3 ((List.range i).map fun j=>VQ l j e) (np (aC l (i:Int))) q=if q < (np (aC l (i:Int))).length then VQ l (rd (np (aC l (i:Int))) (q:Int)).toNat e else 0:=fun q=>by
     unfold v3
     by_cases c:q < (np (aC l (i:Int))).length
     ·rw [if_pos c,if_pos c]
      have:=hpp _ (lW c)
      generalize rd (np (aC l (i:Int))) (q:Int)=z at *
      obtain ⟨z,rfl⟩:=Int.eq_ofNat_of_zero_le this.1
      rw [Int.toNat_natCast,hVg i z (by omega)]
     ·rw [if_neg c,if_neg c]
    rw [hVe,vS,if_neg h1,if_neg hq,← part 0,← part 1,← part 2]
    exact bA _
 have main:∀ d i,i + d=a + 1→Ev (fun k=>cV.l0 k l e (a:Int) ((List.range i).map fun j=>VQ l j e) (i:Int)) (VQ l a e,e):=by
  intro d
  induction d with
  | zero =>
   intro i hi
   refine aZ ?_
   simp only [cV.l0,if_neg (show ¬ (i:Int)≤(a:Int) by omega),if_pos (show 0≤(a:Int) by omega),hV,if_pos (show (a:Int) < (i:Int) by omega),hVg i a (by omega)]
   exact bA _
  | succ d ihd =>
   intro i hi
   have e2:=ihd (i + 1) (by omega)
   rw [List.range_succ,List.map_append] at e2
   refine aZ ?_
   simp only [cV.l0,if_pos (show (i:Int)≤(a:Int) by omega)]
   refine bC (one i (by omega)) ?_
   simp only [hV,if_pos (show i < 17592186044416 by omega),eP i (show i < 4611686018427387904 by omega)]
   exact e2
 exact main (a + 1) 0 (by omega)
theorem wS (l:List bL) (hT:fN l=true) (ws:List Int) (hv:∀ j:Nat,j < l.length→cL false (hG l) (j:Int)=true→(aC l (j:Int)).f0=1→rd ws (aC l (j:Int)).f2=(aC l (j:Int)).f1) (hq:∀ j:Nat,j < l.length→cL false (hG l) (j:Int)=true→qu (aC l (j:Int)).f0=true→rd ws (aC l (j:Int)).f2=(aC l (j:Int)).f4)
  (hB:qB l≤12) (e:List Int) (he:e.length=8) (hE:kA ws e) (v:Int) (hA:∀ p pl,fN p=true→prV l l.length p pl→Ev (fun k=>cV.f k p e ((p.length:Int) - 1)) (v,e)):Ev (fun k=>cO.f k l e) (v,true):=by
 have hl8:=iF hT
 obtain ⟨p,pl,ep,hTp,V⟩:=mF l hT
 have hp8:=iF hTp
 have hpp:=fF hTp
 have hBp:qB p≤12:=Nat.le_trans (yM V) hB
 have hfit:Ev (fun k=>aK.f k p e) true:=aAK p hTp ws (fun j hj h=>by
  obtain ⟨c,h1,h2,_,h4⟩:=V.of j hj
  rw [h4] at h ⊢
  exact hv c h1 h2 h) (fun j hj h=>by
  obtain ⟨c,h1,h2,_,h4⟩:=V.of j hj
  have h5:(mv (rd pl) (aC l (c:Int))).f4=(aC l (c:Int)).f4:=by
   rw [h4] at h
   have h6:qu (aC l (c:Int)).f0=true:=h
   have hn:np (aC l (c:Int))=[(aC l (c:Int)).f3]:=by unfold np parts;rw [if_pos (Or.inr (Or.inr h6))]
   unfold mv
   rw [hn]
   simp
  rw [h4] at h ⊢
  rw [h5]
  exact hq c h1 h2 h) e he hE
 have hwp:wrap64 ((p.length:Int) - 1)=(p.length:Int) - 1:=jR (by omega) (by omega)
 have sums:∀ i,i≤p.length→((p.take i).map nB).sum≤qB p:=fun i hi=>by
  have:qB p=((p.take i).map nB).sum + ((p.drop i).map nB).sum:=by
   unfold qB
   rw [← List.sum_append,← List.map_append,List.take_append_drop]
  omega
 have main:∀ d i,i + d=p.length→Ev (fun k=>cO.l0 k e p ((((p.take i).map nB).sum:Nat):Int) (i:Int)) (v,true):=by
  intro d
  induction d with
  | zero =>
   intro i hi
   obtain rfl:i=p.length:=by omega
   have hs:=sums p.length (Nat.le_refl _)
   refine aZ ?_
   simp only [cO.l0,if_neg (show ¬ (p.length:Int) < (p.length:Int) by omega),if_neg (show ¬ ((((p.take p.length).map nB).sum:Nat):Int) > 12 by omega)]
   refine bC hfit ?_
   simp only [if_true,Option.bind_some,List.nil_append,List.length_nil,he,if_pos (show 0 + 8 < 17592186044416 by decide),hwp]
   exact bC (hA p pl hTp V) (bA _)
  | succ d ih =>
   intro i hi
   have e1:=ih (i + 1) (by omega)
   have hs:=sums (i + 1) (by omega)
   have hx:p[i]=aC p (i:Int):=by rw [jF,dZ p i _ (by omega)]
   rw [List.take_succ_eq_append_getElem (by omega),List.map_append,List.sum_append,hx] at e1 hs
   simp only [List.map_cons,List.map_nil,List.sum_cons,List.sum_nil,Nat.add_zero] at e1 hs
   refine aZ ?_
   simp only [cO.l0,if_pos (show (i:Int) < (p.length:Int) by omega),if_pos (show 0≤(i:Int) by omega),quS,Option.bind_some,eP i (show i < 4611686018427387904 by omega)]
   by_cases c:qu (aC p (i:Int)).f0=true
   ·have hn:((nB (aC p (i:Int)):Nat):Int)=(aC p (i:Int)).f4:=by
     have:=iZ p hTp i (by omega) c
     unfold nB
     rw [if_pos ((jN _).1 c)]
     omega
    simp only [if_pos c]
    rw [← hn,jR (by omega) (by omega),← Int.natCast_add]
    exact e1
   ·have hn:nB (aC p (i:Int))=0:=by
     unfold nB
     rw [if_neg (fun h=>c ((jN _).2 h))]
    rw [hn,Nat.add_zero] at e1
    simp only [if_neg c]
    exact e1
 unfold cO.f
 refine bC (a:=true) (by rw [← hT];exact nT l (by omega)) ?_
 simp only [if_true]
 refine aZ ?_
 simp only [cO.j0,he,if_neg (show ¬ (((8:Nat):Int) != 8)=true by decide)]
 exact bC ep (main p.length 0 (by omega))
def HP:List eS→(List Int→Prop)→List Int→Prop
 | [],φ,e=>φ e
 | x :: q,φ,e=>if x.f0=true then ∀ y:Nat,y < 2 ^ x.f2.toNat→HP q φ (e.set x.f1.toNat (y:Int)) else ∃ y:Nat,y < 2 ^ x.f2.toNat∧HP q φ (e.set x.f1.toNat (y:Int))
theorem aFW (l:List bL):∀ (q:List eS) (e:List Int),HQ l q e↔HP q (fun e=>(zR l e == 1)=true) e:=by
 intro q
 induction q with
 | nil=>intro e;exact Iff.rfl
 | cons x q ih =>
  intro e
  simp only [HQ,HP,ih]
theorem wD (a b:List eS) (φ:List Int→Prop):∀ e,HP (a ++ b) φ e↔HP a (HP b φ) e:=by
 induction a with
 | nil=>intro e;exact Iff.rfl
 | cons x a ih =>
  intro e
  simp only [List.cons_append,HP,ih]
abbrev aBE (ws:List Int) (q:List eS):Prop:=∀ x∈q,(0≤x.f1∧x.f1≤7)∧(1≤x.f2∧x.f2≤8)∧rd ws x.f1=x.f2
abbrev good (ws e:List Int):Prop:=e.length=8∧kA ws e
theorem lG {ws e:List Int} {x:eS} (h:good ws e) (hx:(0≤x.f1∧x.f1≤7)∧(1≤x.f2∧x.f2≤8)∧rd ws x.f1=x.f2) (y:Nat) (hy:y < 2 ^ x.f2.toNat):good ws (e.set x.f1.toNat (y:Int)):=by
 refine ⟨by rw [List.length_set];exact h.1,vW h.1 h.2 _ hx.1.1 _ ?_⟩
 rw [hx.2.2]
 exact ⟨Int.natCast_nonneg _,by exact_mod_cast hy⟩
theorem mQ {ws:List Int} {φ ψ:List Int→Prop} (h:∀ e,good ws e→(φ e↔ψ e)):∀ q:List eS,aBE ws q→∀ e,good ws e→(HP q φ e↔HP q ψ e):=by
 intro q
 induction q with
 | nil=>intro _ e he;exact h e he
 | cons x q ih =>
  intro hq e he
  have hx:=hq x (List.mem_cons_self ..)
  have ih:=ih (fun z hz=>hq z (List.mem_cons_of_mem _ hz))
  simp only [HP]
  by_cases c:x.f0=true
  ·rw [if_pos c,if_pos c]
   exact ⟨fun g y hy=>(ih _ (lG he hx y hy)).1 (g y hy),fun g y hy=>(ih _ (lG he hx y hy)).2 (g y hy)⟩
  ·rw [if_neg c,if_neg c]
   exact ⟨fun ⟨y,hy,g⟩=>⟨y,hy,(ih _ (lG he hx y hy)).1 g⟩,fun ⟨y,hy,g⟩=>⟨y,hy,(ih _ (lG he hx y hy)).2 g⟩⟩
theorem aDK {φ:List Int→Prop} (v:Nat) (h:∀ e (y:Int),φ (e.set v y)↔φ e):∀ (q:List eS) (e:List Int) (y:Int),HP q φ (e.set v y)↔HP q φ e:=by
 intro q
 induction q with
 | nil=>exact h
 | cons x q ih =>
  intro e y
  have key:∀ z:Int,HP q φ ((e.set v y).set x.f1.toNat z)↔HP q φ (e.set x.f1.toNat z):=fun z=>by
   by_cases c:x.f1.toNat=v
   ·rw [c,List.set_set]
   ·rw [List.set_comm _ _ (fun h=>c h.symm)]
    exact ih _ _
  simp only [HP,key]
def cn (c:Bool) (p q:Prop):Prop:=if c=true then p∧q else p∨q
theorem uQ (c:Bool) (p q:Prop):cn c p q↔cn c q p:=by cases c <;> simp [cn,and_comm,or_comm]
theorem xH {c:Bool} {p q p' q':Prop} (h:p↔p') (h2:q↔q'):cn c p q↔cn c p' q':=by rw [propext h,propext h2]
theorem aBZ (c:Bool) {φ ψ:List Int→Prop}:∀ q:List eS,(∀ x∈q,∀ e (y:Int),ψ (e.set x.f1.toNat y)↔ψ e)→∀ e,(HP q (fun e=>cn c (φ e) (ψ e)) e↔cn c (HP q φ e) (ψ e)):=by
 intro q
 induction q with
 | nil=>intro _ e;exact Iff.rfl
 | cons x q ih =>
  intro h e
  have hx:=h x (List.mem_cons_self ..)
  have ih:=ih (fun z hz=>h z (List.mem_cons_of_mem _ hz))
  have h0:0 < 2 ^ x.f2.toNat:=Nat.two_pow_pos _
  simp only [HP,ih,hx]
  generalize ψ e=p
  generalize 2 ^ x.f2.toNat=n at h0
  by_cases c0:x.f0=true
  ·simp only [if_pos c0]
   cases c with
   | true =>
    simp only [cn,if_true]
    exact ⟨fun g=>⟨fun y hy=>(g y hy).1,(g 0 h0).2⟩,fun g y hy=>⟨g.1 y hy,g.2⟩⟩
   | false =>
    simp only [cn,Bool.false_eq_true,if_false]
    refine ⟨fun g=>?_,fun g y hy=>?_⟩
    ·by_cases hp:p
     ·exact Or.inr hp
     ·exact Or.inl (fun y hy=>(g y hy).resolve_right hp)
    ·rcases g with g|g
     ·exact Or.inl (g y hy)
     ·exact Or.inr g
  ·simp only [if_neg c0]
   cases c with
   | true =>
    simp only [cn,if_true]
    exact ⟨fun ⟨y,hy,g⟩=>⟨⟨y,hy,g.1⟩,g.2⟩,fun ⟨⟨y,hy,g⟩,g2⟩=>⟨y,hy,g,g2⟩⟩
   | false =>
    simp only [cn,Bool.false_eq_true,if_false]
    refine ⟨fun ⟨y,hy,g⟩=>?_,fun g=>?_⟩
    ·rcases g with g|g
     ·exact Or.inl ⟨y,hy,g⟩
     ·exact Or.inr g
    ·rcases g with ⟨y,hy,g⟩|g
     ·exact ⟨y,hy,Or.inl g⟩
     ·exact ⟨0,h0,Or.inr g⟩
theorem aAP (c:Bool) {ws:List Int} {φ α β:List Int→Prop} {a b:List eS} (ha:aBE ws a) (hb:aBE ws b) (hφ:∀ e,good ws e→(φ e↔cn c (α e) (β e))) (hα:∀ x∈b,∀ e (y:Int),α (e.set x.f1.toNat y)↔α e) (hβ:∀ x∈a,∀ e (y:Int),β (e.set x.f1.toNat y)↔β e) (e:List Int) (he:good ws e) :
  HP (a ++ b) φ e↔cn c (HP a α e) (HP b β e):=by
 rw [wD]
 rw [mQ (ψ:=fun e=>cn c (α e) (HP b β e)) (fun e he=>?_) a ha e he]
 ·exact aBZ c a (fun x hx e y=>aDK _ (hβ x hx) b e y) e
 ·rw [mQ hφ b hb e he,mQ (ψ:=fun e=>cn c (β e) (α e)) (fun e _=>uQ ..) b hb e he,aBZ c b hα e]
  exact uQ ..
theorem tC (o W K A B C w a b c v:Int) (h : -9223372036854775808≤K∧K≤9223372036854775807) (e:Ev (fun k=>bS.f k o W K A B C w a b c) v):vO o W K A B C w a b c=v:=mC (nD o W K A B C w a b c h).2 e
theorem zG {x:bL} {w:Int} {g:Nat→List Int→Int} {e e':List Int} (h1:x.f0≠1) (hq:qu x.f0=false) (hg:∀ p,p < (np x).length→g p e'=g p e):vS x w g e'=vS x w g e:=by
 unfold vS
 have hq':¬ qu x.f0=true:=by rw [hq];decide
 rw [if_neg h1,if_neg h1,if_neg hq',if_neg hq']
 have part:∀ p,(if p < (np x).length then g p e' else 0)=(if p < (np x).length then g p e else 0):=fun p=>by
  by_cases c:p < (np x).length
  ·rw [if_pos c,if_pos c,hg p c]
  ·rw [if_neg c,if_neg c]
 rw [part 0,part 1,part 2]
abbrev TH (l:List bL):List bL:=oB l l.length
theorem uM {l:List bL} (hT:fN l=true):fN (TH l)=true:=rH l hT l.length (fF hT) (Nat.le_refl _)
noncomputable def MQ (l:List bL) (i:Nat) (e:List Int):Int:=VQ (TH l) (nM l l.length i) e
theorem uP (l:List bL) {i:Nat} (hi:i < l.length) (hq:qu (aC l (i:Int)).f0=false):nM l l.length i=i:=by
 obtain ⟨d,hd⟩:∃ d,l.length=d + 1:=⟨l.length - 1,by omega⟩
 rw [hd]
 simp only [nM,hq,Bool.false_eq_true,if_false]
theorem zZ {l:List bL} (hT:fN l=true):∀ d d' p,p < d→p < d'→p < l.length→nM l d p=nM l d' p:=by
 intro d
 induction d with
 | zero=>intro d' p h;omega
 | succ d ih =>
  intro d' p h h' hp
  obtain ⟨d',rfl⟩:∃ c,d'=c + 1:=⟨d' - 1,by omega⟩
  simp only [nM]
  cases hq:qu (aC l (p:Int)).f0 with
  | false=>rfl
  | true =>
   simp only [if_true]
   have hm:(aC l (p:Int)).f3∈np (aC l (p:Int)):=by rw [oQ hq];exact List.mem_singleton.2 rfl
   have:=dD l hT p hp _ hm
   exact ih d' _ (by omega) (by omega) (by omega)
theorem aAA {l:List bL} (hT:fN l=true) {i:Nat} (hi:i < l.length) (hq:qu (aC l (i:Int)).f0=true):nM l l.length i=nM l l.length (aC l (i:Int)).f3.toNat:=by
 have hm:(aC l (i:Int)).f3∈np (aC l (i:Int)):=by rw [oQ hq];exact List.mem_singleton.2 rfl
 have:=dD l hT i hi _ hm
 rw [zZ hT l.length (l.length + 1) i hi (by omega) hi]
 simp only [nM,hq,if_true]
theorem zT {l:List bL} (hT:fN l=true) {i:Nat} (hi:i < l.length) (hq:qu (aC l (i:Int)).f0=true) (e:List Int):MQ l i e=MQ l (aC l (i:Int)).f3.toNat e:=by
 unfold MQ
 rw [aAA hT hi hq]
theorem aBS {l:List bL} (hT:fN l=true) {i:Nat} (hi:i < l.length) (hq:qu (aC l (i:Int)).f0=false) (e:List Int):MQ l i e=vS (aC l (i:Int)) (oC l (np (aC l (i:Int)))) (fun p e'=>MQ l (rd (np (aC l (i:Int))) (p:Int)).toNat e') e:=by
 have hpp:=dD l hT i hi
 unfold MQ
 have hw:oC (TH l) (np (mv (mK l) (aC l (i:Int))))=oC l (np (aC l (i:Int))):=zK (fun c hm=>by
  have:=hpp c hm
  obtain ⟨z,rfl⟩:=Int.eq_ofNat_of_zero_le this.1
  obtain ⟨_,g1,_,g3,_⟩:=nN l hT l.length z (by omega) (by omega)
  unfold mK
  rw [Int.toNat_natCast,jP l l.length _ (by omega)]
  exact g3)
 have hn:(np (mv (mK l) (aC l (i:Int)))).length=(np (aC l (i:Int))).length:=by rw [mS,List.length_map]
 have key:∀ p,p < (np (aC l (i:Int))).length→∀ e,VQ (TH l) (rd (np (mv (mK l) (aC l (i:Int)))) (p:Int)).toNat e=VQ (TH l) (nM l l.length (rd (np (aC l (i:Int))) (p:Int)).toNat) e:=fun p hp e=>by
  have hm:=lW hp
  have e0:rd (np (mv (mK l) (aC l (i:Int)))) (p:Int)=mK l (rd (np (aC l (i:Int))) (p:Int)):=by
   rw [mS,eO,eO,dZ _ p _ (by rw [List.length_map];exact hp),dZ _ p _ hp,List.getElem_map]
  rw [e0]
  unfold mK
  rw [Int.toNat_natCast]
 rw [uP l hi hq,lF (uM hT) i (by rw [eJ];exact hi),jP l l.length i hi]
 exact oY (x:=aC l (i:Int)) (x':=mv (mK l) (aC l (i:Int))) rfl rfl rfl (fun c=>aCC _ c) hn hw (uI l hT i hi) key e
theorem sU {l:List bL} (hT:fN l=true) {i:Nat} (hi:i < l.length) (hh:cL false (gE l) (i:Int)=false) (e:List Int):MQ l i e=VQ l i e:=by
 have nq:∀ p:Nat,p < l.length→cL false (gE l) (p:Int)=false→qu (aC l (p:Int)).f0=false:=fun p hp h=>by
  cases c:qu (aC l (p:Int)).f0 with
  | false=>rfl
  | true =>
   rw [(xV l p hp).2 (Or.inl c)] at h
   cases h
 have h:=sX hT (uM hT) (mK l) (fun p=>cL false (gE l) (p:Int)=false) (fun p hp h=>by
  have e1:mK l (p:Int)=(p:Int):=by
   unfold mK
   rw [Int.toNat_natCast,uP l hp (nq p hp h)]
  refine ⟨by rw [e1,eJ];omega,by rw [e1];exact jP l l.length p hp,fun c hc=>?_⟩
  have hb:=dD l hT p hp c hc
  obtain ⟨z,rfl⟩:=Int.eq_ofNat_of_zero_le hb.1
  cases c2:cL false (gE l) (((z:Int).toNat:Nat):Int) with
  | false=>rfl
  | true =>
   rw [Int.toNat_natCast] at c2
   rw [aBY l hT p z hp hc c2] at h
   cases h) i hi hh e
 unfold mK at h
 rw [Int.toNat_natCast,Int.toNat_natCast] at h
 exact h
theorem zE {l:List bL} (hT:fN l=true) {i:Nat} (hi:i < l.length) (ho:(aC l (i:Int)).f0=2∨(aC l (i:Int)).f0=3∨(aC l (i:Int)).f0=4) (h1:(aC l (i:Int)).f1=1):∀ p,p < (np (aC l (i:Int))).length→(aC l (rd (np (aC l (i:Int))) (p:Int))).f1=1:=by
 have hn:=sK l hT i hi
 have hpp:=dD l hT i hi
 have hw:∀ p,p < (np (aC l (i:Int))).length→w3 (l.take i) (np (aC l (i:Int))) p=(aC l (rd (np (aC l (i:Int))) (p:Int))).f1:=fun p hp=>by
  unfold w3
  rw [if_pos hp]
  have:=hpp _ (lW hp)
  exact congrArg _ (jO l i _ this.1 (by omega))
 unfold nG at hn
 simp only [Bool.and_eq_true] at hn
 obtain ⟨_,_,_,_,hop⟩:=hn
 have hnp:(np (aC l (i:Int))).length=if (aC l (i:Int)).f0=2 then 1 else 2:=by
  rcases gZ (aC l (i:Int)) with ⟨e,c⟩ | ⟨e,c⟩ | ⟨e,c⟩ | ⟨e,c1,c2,c3⟩
  ·rw [jN] at c
   rw [e,if_pos (by omega)]
   rfl
  ·rw [e,if_neg (by omega)]
   rfl
  ·omega
  ·omega
 intro p hp
 rw [← hw p hp]
 unfold mL at hop
 rw [if_neg (by omega),if_neg (by omega)] at hop
 by_cases h2:(aC l (i:Int)).f0=2
 ·rw [if_pos h2] at hop
  rw [hnp,if_pos h2] at hp
  obtain rfl:p=0:=by omega
  rw [← h1]
  exact beq_iff_eq.1 hop
 ·rw [if_neg h2,if_pos (by omega),Bool.and_eq_true] at hop
  rw [hnp,if_neg h2] at hp
  rcases (show p=0∨p=1 by omega) with rfl|rfl
  ·rw [← h1];exact beq_iff_eq.1 hop.1
  ·rw [← h1];exact beq_iff_eq.1 hop.2
end Go.Proofs.Ythipjoioicmcnaa.Pure
