-- texts of this session, merged by a program of it (wip/gen/pack.py)
import Derived.Test.YthipjoioicmcnaaGreatKFnIdleQuant13
import Derived.Test.YthipjoioicmcnaaGreatKFnIdleQuant9
import Derived.Test.YthipjoioicmcnaaGreatKFnIdleQuant8
import Derived.Test.YthipjoioicmcnaaGreatKFnIdleQuant12
import Derived.Test.YthipjoioicmcnaaGreatKFnIdleQuant6
import Derived.Test.YthipjoioicmcnaaGreatKFnIdleQuant4
import Derived.Test.YthipjoioicmcnaaGreatKFnIdleQuant3
import Derived.Test.YthipjoioicmcnaaGreatKFnIdleQuant2
import Derived.Test.YthipjoioicmcnaaGreatKFnIdleQuant5
import Derived.Test.YthipjoioicmcnaaGreatKFnIdleQuant10
set_option linter.unusedVariables false
set_option linter.unusedSimpArgs false
set_option maxHeartbeats 80000000
set_option maxRecDepth 100000
namespace Go.Proofs.YthipjoioicmcnaaGreat.Pure
open Go.RowKit Go.Proofs.YthipjoioicmcnaaGreat.G Go.Proofs.YthipjoioicmcnaaGreatW.PrintWords Go.Proofs.YthipjoioicmcnaaGreatW.PrintLast Go.Proofs.YthipjoioicmcnaaGreatW.PrintMore
def mv (φ:Int→Int) (x:S52):S52:=⟨x.f0,x.f1,x.f2,if 0 < (np x).length then φ x.f3 else x.f3,if 1 < (np x).length then φ x.f4 else x.f4,if 2 < (np x).length then φ x.f5 else x.f5⟩
theorem np_cases (x:S52):(np x=[x.f3]∧(x.f0=2∨x.f0=17∨qu x.f0=true))∨(np x=[x.f3,x.f4]∧3≤x.f0∧x.f0≤16)∨(np x=[x.f3,x.f4,x.f5]∧x.f0=18)∨(np x=[]∧¬ (x.f0=2∨x.f0=17∨qu x.f0=true)∧¬ (3≤x.f0∧x.f0≤16)∧¬ x.f0=18):=by
 unfold np parts
 by_cases h1:x.f0=2∨x.f0=17∨qu x.f0=true
 ·exact Or.inl ⟨if_pos h1,h1⟩
 by_cases h2:3≤x.f0∧x.f0≤16
 ·exact Or.inr (Or.inl ⟨by rw [if_neg h1,if_pos h2],h2⟩)
 by_cases h3:x.f0=18
 ·exact Or.inr (Or.inr (Or.inl ⟨by rw [if_neg h1,if_neg h2,if_pos h3],h3⟩))
 ·exact Or.inr (Or.inr (Or.inr ⟨by rw [if_neg h1,if_neg h2,if_neg h3],h1,h2,h3⟩))
theorem mv_np (φ:Int→Int) (x:S52):np (mv φ x)=(np x).map φ:=by
 rcases np_cases x with ⟨h,c⟩ | ⟨h,c⟩ | ⟨h,c⟩ | ⟨h,c1,c2,c3⟩
 ·rw [h]
  show parts x.f0 _ _ _=_
  unfold parts
  rw [if_pos c]
  simp [mv,h]
 ·have c1:¬ (x.f0=2∨x.f0=17∨qu x.f0=true):=by unfold qu;simp only [decide_eq_true_eq];omega
  rw [h]
  show parts x.f0 _ _ _=_
  unfold parts
  rw [if_neg c1,if_pos c]
  simp [mv,h]
 ·have c1:¬ (x.f0=2∨x.f0=17∨qu x.f0=true):=by unfold qu;simp only [decide_eq_true_eq];omega
  rw [h]
  show parts x.f0 _ _ _=_
  unfold parts
  rw [if_neg c1,if_neg (by omega),if_pos c]
  simp [mv,h]
 ·rw [h]
  show parts x.f0 _ _ _=_
  unfold parts
  rw [if_neg c1,if_neg c2,if_neg c3]
  rfl
theorem mv_uses (φ:Int→Int) (x:S52) (h:usesF x.f0 x.f2 x.f3 x.f4 x.f5=true):usesF (mv φ x).f0 (mv φ x).f2 (mv φ x).f3 (mv φ x).f4 (mv φ x).f5=true:=by
 rcases np_cases x with ⟨e,c⟩ | ⟨e,c⟩ | ⟨e,c⟩ | ⟨e,c1,c2,c3⟩
 ·simp only [mv,e,List.length_singleton,if_pos (show 0 < 1 by decide),if_neg (show ¬ 1 < 1 by decide),if_neg (show ¬ 2 < 1 by decide)]
  unfold usesF at h ⊢
  have c0:¬ (x.f0=0∨x.f0=1):=by unfold qu at c;simp only [decide_eq_true_eq] at c;omega
  rw [if_neg c0] at h ⊢
  rcases c with c|c|c
  ·rw [if_neg (show ¬ x.f0=17 by omega)] at h ⊢
   have cq:¬ qu x.f0=true:=by unfold qu;simp only [decide_eq_true_eq];omega
   rw [if_neg cq,if_pos c] at h ⊢
   exact h
  ·rw [if_pos c] at h ⊢
   exact h
  ·have c17:¬ x.f0=17:=by unfold qu at c;simp only [decide_eq_true_eq] at c;omega
   rw [if_neg c17,if_pos c] at h ⊢
   exact h
 ·simp only [mv,e,List.length_cons,List.length_nil,if_pos (show 0 < 0 + 1 + 1 by decide),if_pos (show 1 < 0 + 1 + 1 by decide),if_neg (show ¬ 2 < 0 + 1 + 1 by decide)]
  unfold usesF at h ⊢
  have cq:¬ qu x.f0=true:=by unfold qu;simp only [decide_eq_true_eq];omega
  rw [if_neg (show ¬ (x.f0=0∨x.f0=1) by omega),if_neg (show ¬ x.f0=17 by omega),if_neg cq,if_neg (show ¬ x.f0=2 by omega),if_pos c] at h ⊢
  exact h
 ·simp only [mv,e,List.length_cons,List.length_nil,if_pos (show 0 < 0 + 1 + 1 + 1 by decide),if_pos (show 1 < 0 + 1 + 1 + 1 by decide),if_pos (show 2 < 0 + 1 + 1 + 1 by decide)]
  unfold usesF at h ⊢
  have cq:¬ qu x.f0=true:=by unfold qu;simp only [decide_eq_true_eq];omega
  rw [if_neg (show ¬ (x.f0=0∨x.f0=1) by omega),if_neg (show ¬ x.f0=17 by omega),if_neg cq,if_neg (show ¬ x.f0=2 by omega),if_neg (show ¬ (3≤x.f0∧x.f0≤16) by omega),if_pos c] at h ⊢
  exact h
 ·simp only [mv,e,List.length_nil,if_neg (show ¬ 0 < 0 by decide),if_neg (show ¬ 1 < 0 by decide),if_neg (show ¬ 2 < 0 by decide)]
  exact h
theorem opF_b (o w kk b b' x0 x1 x2:Int) (h:qu o=true∨(0≤o∧o≤18)→(0≤o∧o≤18)∨b=b') (ho:0≤o∧o≤20):opF o w kk b x0 x1 x2=opF o w kk b' x0 x1 x2:=by
 unfold opF
 by_cases h18:o≤18
 ·repeat' split
  all_goals first|rfl|omega
 ·rcases h (Or.inl (by unfold qu;simp only [decide_eq_true_eq];omega)) with h1|rfl
  ·omega
  ·rfl
theorem nd_move (l l':List S52) (x:S52) (φ:Int→Int) (h:ndF l x=true) (hφ:∀ p∈np x,(0≤φ p∧φ p≤(l'.length:Int) - 1)∧(rd_T52 l' (φ p)).f1=(rd_T52 l p).f1):ndF l' (mv φ x)=true:=by
 unfold ndF at h ⊢
 simp only [Bool.and_eq_true] at h ⊢
 obtain ⟨hW,hO,hU,hP,hop⟩:=h
 have ho:=of_decide_eq_true hO
 have hw:∀ q:Nat,w3 l' (np (mv φ x)) q=w3 l (np x) q:=fun q=>by
  unfold w3
  rw [mv_np,List.length_map]
  by_cases hq:q < (np x).length
  ·rw [if_pos hq,if_pos hq,rd_nat,rd_nat,getD_lt _ q _ (by rw [List.length_map];exact hq),getD_lt _ q _ hq,List.getElem_map]
   exact (hφ _ (List.getElem_mem hq)).2
  ·rw [if_neg hq,if_neg hq]
 refine ⟨hW,hO,mv_uses φ x hU,?_,?_⟩
 ·rw [mv_np]
  unfold pOk
  rw [List.all_eq_true]
  intro p hp
  obtain ⟨q,hq,rfl⟩:=List.mem_map.1 hp
  exact decide_eq_true (hφ q hq).1
 ·rw [hw 0,hw 1,hw 2]
  show opF x.f0 x.f1 x.f2 (mv φ x).f4 _ _ _=true
  rw [opF_b x.f0 x.f1 x.f2 (mv φ x).f4 x.f4 _ _ _ (fun _=>?_) ho]
  ·exact hop
  ·by_cases h18:x.f0≤18
   ·exact Or.inl ⟨ho.1,h18⟩
   ·right
    have hq:qu x.f0=true:=by unfold qu;simp only [decide_eq_true_eq];omega
    rcases np_cases x with ⟨e,c⟩ | ⟨e,c⟩ | ⟨e,c⟩ | ⟨e,c1,c2,c3⟩
    ·simp only [mv,e,List.length_singleton,if_neg (show ¬ 1 < 1 by decide)]
    ·omega
    ·omega
    ·exact absurd (Or.inr (Or.inr hq)) c1
theorem np_mem (x:S52):(0 < (np x).length→x.f3∈np x)∧(1 < (np x).length→x.f4∈np x)∧(2 < (np x).length→x.f5∈np x):=by
 rcases np_cases x with ⟨e,c⟩ | ⟨e,c⟩ | ⟨e,c⟩ | ⟨e,c1,c2,c3⟩ <;> rw [e] <;> simp
theorem rdN_old (l:List S52) (y:S52) (j:Nat) (h:j < l.length):rd_T52 (l ++ [y]) (j:Int)=rd_T52 l (j:Int):=by
 rw [rdN_nat,rdN_nat,List.getD_eq_getElem?_getD,List.getD_eq_getElem?_getD,List.getElem?_append_left h]
theorem rdN_new (l:List S52) (y:S52):rd_T52 (l ++ [y]) (l.length:Int)=y:=by
 rw [rdN_nat,List.getD_eq_getElem?_getD,List.getElem?_append_right (Nat.le_refl _),Nat.sub_self]
 rfl
theorem rd_old (l:List Int) (y:Int) (p:Int) (h0:0≤p) (h:p < (l.length:Int)):rd (l ++ [y]) p=rd l p:=by
 obtain ⟨j,rfl⟩:=Int.eq_ofNat_of_zero_le h0
 rw [rd_nat,rd_nat,List.getD_eq_getElem?_getD,List.getD_eq_getElem?_getD,List.getElem?_append_left (by omega)]
theorem rd_new (l:List Int) (y:Int):rd (l ++ [y]) (l.length:Int)=y:=by
 rw [rd_nat,List.getD_eq_getElem?_getD,List.getElem?_append_right (Nat.le_refl _),Nat.sub_self]
 rfl
theorem tmA_all (l:List S52):∀ d i,(∀ j,i≤j→j < i + d→ndF (l.take j) (rd_T52 l (j:Int))=true)→tmA l d i=true:=by
 intro d
 induction d with
 | zero=>intro i _;rfl
 | succ d ih =>
  intro i h
  simp only [tmA,Bool.and_eq_true]
  exact ⟨h i (Nat.le_refl _) (by omega),ih (i + 1) (fun j h1 h2=>h j (by omega) (by omega))⟩
theorem tm_len {l:List S52} (hT:tmF l=true):l.length≤80:=by
 unfold tmF at hT
 rw [Bool.and_eq_true] at hT
 have:=of_decide_eq_true hT.1
 omega
theorem tm_all {l:List S52} (h1:1≤l.length) (h8:l.length≤80) (h:∀ j,j < l.length→ndF (l.take j) (rd_T52 l (j:Int))=true):tmF l=true:=by
 unfold tmF
 rw [Bool.and_eq_true]
 exact ⟨decide_eq_true (by omega),tmA_all l l.length 0 (fun j _ h2=>h j (by omega))⟩
theorem nd_push {out:List S52} {y:S52} (h:∀ j,j < out.length→ndF (out.take j) (rd_T52 out (j:Int))=true) (hy:ndF out y=true):∀ j,j < (out ++ [y]).length→ndF ((out ++ [y]).take j) (rd_T52 (out ++ [y]) (j:Int))=true:=by
 intro j hj
 rw [List.length_append,List.length_singleton] at hj
 rcases Nat.lt_succ_iff_lt_or_eq.1 hj with h1|rfl
 ·rw [List.take_append_of_le_length (by omega),rdN_old _ _ _ h1]
  exact h j h1
 ·rw [rdN_new,List.take_append_of_le_length (Nat.le_refl _),List.take_length]
  exact hy
theorem mv_congr (φ ψ:Int→Int) (x:S52) (h:∀ p∈np x,φ p=ψ p):mv φ x=mv ψ x:=by
 rcases np_cases x with ⟨e,_⟩ | ⟨e,_⟩ | ⟨e,_⟩ | ⟨e,_⟩ <;> rw [e] at h <;> simp at h <;> simp [mv,e,h]
structure prV (l:List S52) (i:Nat) (out:List S52) (pl:List Int):Prop where
 plen:pl.length=i
 le:out.length≤i
 at_:∀ p:Nat,p < i→rdOf false (mkS l) (p:Int)=true→(0≤rd pl (p:Int)∧rd pl (p:Int) < (out.length:Int))∧rd_T52 out (rd pl (p:Int))=mv (rd pl) (rd_T52 l (p:Int))
 nd:∀ j,j < out.length→ndF (out.take j) (rd_T52 out (j:Int))=true
 of:∀ j:Nat,j < out.length→∃ p:Nat,p < i∧rdOf false (mkS l) (p:Int)=true∧rd pl (p:Int)=(j:Int)∧rd_T52 out (j:Int)=mv (rd pl) (rd_T52 l (p:Int))
 last:∀ p:Nat,p + 1=i→rdOf false (mkS l) (p:Int)=true→rd pl (p:Int)=(out.length:Int) - 1
theorem mk_parts (l:List S52) (hT:tmF l=true) (i:Nat) (hi:i < l.length) (h:rdOf false (mkS l) (i:Int)=true):∀ p∈np (rd_T52 l (i:Int)),rdOf false (mkS l) p=true:=by
 intro p hp
 have hb:=tm_parts l hT i hi p hp
 rw [rdOf_nat'] at h
 have:=reF_parts l hT l.length (ms0 l.length) i hi (Nat.le_refl _) (ms0_length _) h p hp
 unfold rdOf
 exact this
theorem mk_root (l:List S52) (h:1≤l.length):rdOf false (mkS l) ((l.length - 1:Nat):Int)=true:=by
 rw [rdOf_nat']
 refine reF_keep l _ _ _ ?_
 unfold ms0
 rw [List.getD_eq_getElem?_getD,List.getElem?_set,if_pos rfl,if_pos (by rw [List.length_replicate];omega)]
 rfl
theorem prL_ok (l:List S52) (hT:tmF l=true):∀ d i,i + d=l.length→∀ (out:List S52) (pl:List Int),prV l i out pl→∃ r pl',Ev (fun k=>prL k l (mkS l) out pl (i:Int)) r∧prV l l.length r pl':=by
 have hl8:=tm_len hT
 have hM:(mkS l).length=l.length:=by rw [reF_length,ms0_length]
 intro d
 induction d with
 | zero =>
  intro i hi out pl V
  obtain rfl:i=l.length:=by omega
  refine ⟨out,pl,ev_succ ?_,V⟩
  simp only [prL,if_neg (show ¬ (l.length:Int) < (l.length:Int) by omega)]
  exact ev_some _
 | succ d ih =>
  intro i hi out pl V
  have hpl:=V.plen
  have hle:=V.le
  have g1:(0≤(i:Int)∧(i:Int) < ((mkS l).length:Int))∧(pl.length < 17592186044416∧out.length < 2932031007402):=by omega
  have hat:∀ p:Nat,p < i→rd (pl ++ [(out.length:Int)]) (p:Int)=rd pl (p:Int):=fun p hp=>rd_old _ _ _ (by omega) (by omega)
  have same:∀ p:Nat,p < i→mv (rd pl) (rd_T52 l (p:Int))=mv (rd (pl ++ [(out.length:Int)])) (rd_T52 l (p:Int)):=fun p hp=>mv_congr _ _ _ (fun x hx=>by
   have hb:=tm_parts l hT p (by omega) x hx
   obtain ⟨y,rfl⟩:=Int.eq_ofNat_of_zero_le hb.1
   exact (hat y (by omega)).symm)
  by_cases hm:rdOf false (mkS l) (i:Int)=true
  ·have hpp:=tm_parts l hT i (by omega)
   have hmp:=mk_parts l hT i (by omega) hm
   have hpr:prI (pl ++ [(out.length:Int)]) (rd_T52 l (i:Int)) (np (rd_T52 l (i:Int))).length:=by
    have hmem:=np_mem (rd_T52 l (i:Int))
    have hlen:(((pl ++ [(out.length:Int)]).length:Nat):Int)=(i:Int) + 1:=by rw [List.length_append,List.length_singleton];omega
    refine ⟨fun h=>?_,fun h=>?_,fun h=>?_⟩
    ·have:=hpp _ (hmem.1 h);omega
    ·have:=hpp _ (hmem.2.1 h);omega
    ·have:=hpp _ (hmem.2.2 h);omega
   have hy:ndF out (mv (rd (pl ++ [(out.length:Int)])) (rd_T52 l (i:Int)))=true:=by
    refine nd_move (l.take i) out _ _ (tm_nd l hT i (by omega)) (fun p hp=>?_)
    have hb:=hpp p hp
    obtain ⟨q,rfl⟩:=Int.eq_ofNat_of_zero_le hb.1
    have:=V.at_ q (by omega) (hmp _ hp)
    rw [hat q (by omega),rd_take l i q (by omega)]
    exact ⟨by omega,by rw [this.2];rfl⟩
   have V2:prV l (i + 1) (out ++ [mv (rd (pl ++ [(out.length:Int)])) (rd_T52 l (i:Int))]) (pl ++ [(out.length:Int)]):=by
    refine ⟨by simp [hpl],by simp;omega,fun p hp hmk=>?_,nd_push V.nd hy,fun j hj=>?_,fun p hp hmk=>?_⟩
    ·rcases Nat.lt_succ_iff_lt_or_eq.1 hp with h|rfl
     ·have:=V.at_ p h hmk
      rw [hat p h]
      obtain ⟨q,hq⟩:=Int.eq_ofNat_of_zero_le this.1.1
      rw [hq] at this ⊢
      rw [rdN_old _ _ _ (by omega)]
      exact ⟨by simp;omega,this.2.trans (same p h)⟩
     ·rw [show rd (pl ++ [(out.length:Int)]) (p:Int)=(out.length:Int) from by rw [← hpl];exact rd_new _ _,rdN_new]
      exact ⟨by simp;omega,rfl⟩
    ·rw [List.length_append,List.length_singleton] at hj
     rcases Nat.lt_succ_iff_lt_or_eq.1 hj with h|rfl
     ·obtain ⟨p,h1,h2,h3,h4⟩:=V.of j h
      rw [rdN_old _ _ _ h,h4]
      exact ⟨p,by omega,h2,by rw [hat p h1];exact h3,same p h1⟩
     ·rw [rdN_new]
      exact ⟨i,by omega,hm,by rw [← hpl];exact rd_new _ _,rfl⟩
    ·obtain rfl:p=i:=by omega
     rw [show rd (pl ++ [(out.length:Int)]) (p:Int)=(out.length:Int) from by rw [← hpl];exact rd_new _ _]
     simp
   obtain ⟨r,pl',e,h⟩:=ih (i + 1) (by omega) _ _ V2
   refine ⟨r,pl',ev_succ ?_,h⟩
   simp only [prL,if_pos (show (i:Int) < (l.length:Int) by omega),if_pos g1,if_pos hm,w64s i (show i < 4611686018427387904 by omega)]
   refine ev_bind (a:=np (rd_T52 l (i:Int))) (f:=fun k ps=>if prI (pl ++ [(out.length:Int)]) (rd_T52 l (i:Int)) ps.length then prL k l (mkS l) (out ++ [prN (pl ++ [(out.length:Int)]) (rd_T52 l (i:Int)) ps.length]) (pl ++ [(out.length:Int)]) ((i + 1:Nat):Int) else none) (np_ev _) ?_
   simp only [if_pos hpr]
   exact e
  ·have V2:prV l (i + 1) out (pl ++ [(out.length:Int)]):=by
    refine ⟨by simp [hpl],by omega,fun p hp hmk=>?_,V.nd,fun j hj=>?_,fun p hp hmk=>?_⟩
    ·rcases Nat.lt_succ_iff_lt_or_eq.1 hp with h|rfl
     ·rw [hat p h]
      exact ⟨(V.at_ p h hmk).1,(V.at_ p h hmk).2.trans (same p h)⟩
     ·exact absurd hmk hm
    ·obtain ⟨p,h1,h2,h3,h4⟩:=V.of j hj
     exact ⟨p,by omega,h2,by rw [hat p h1];exact h3,by rw [h4];exact same p h1⟩
    ·obtain rfl:p=i:=by omega
     exact absurd hmk hm
   obtain ⟨r,pl',e,h⟩:=ih (i + 1) (by omega) _ _ V2
   refine ⟨r,pl',ev_succ ?_,h⟩
   simp only [prL,if_pos (show (i:Int) < (l.length:Int) by omega),if_pos g1,if_neg hm,w64s i (show i < 4611686018427387904 by omega)]
   exact e
theorem prune_full (l:List S52) (hT:tmF l=true):∃ r pl,Ev (fun k=>spec_Prune.f k l) r∧tmF r=true∧prV l l.length r pl:=by
 have hl8:=tm_len hT
 have hp:=tm_pos hT
 obtain ⟨r,pl',e,V⟩:=prL_ok l hT l.length 0 (by omega) [] [] ⟨rfl,Nat.le_refl _,fun p hp=>by omega,fun j hj=>by simp at hj,fun j hj=>by simp at hj,fun p hp=>by omega⟩
 have hat:=(V.at_ (l.length - 1) (by omega) (mk_root l hp)).1
 have hle:=V.le
 refine ⟨r,pl',?_,tm_all (by omega) (by omega) V.nd,V⟩
 unfold spec_Prune.f
 refine ev_bind (a:=true) (f:=fun k t=>if t=true then (spec_l02Reach.f k l).bind fun is=>prL k l is [] [] 0 else some []) (by rw [← hT];exact termS l (by omega)) ?_
 simp only [if_true]
 exact ev_bind (f:=fun k is=>prL k l is [] [] 0) (reachS l hT (by omega)) e
theorem prune_ok (l:List S52) (hT:tmF l=true):∃ r,Ev (fun k=>spec_Prune.f k l) r∧tmF r=true∧(rd_T52 r ((r.length:Int) - 1)).f1=(rd_T52 l ((l.length:Int) - 1)).f1 ∧
  ∀ j,j < r.length→∃ p:Nat,p < l.length∧rdOf false (mkS l) (p:Int)=true∧(rd_T52 r (j:Int)).f0=(rd_T52 l (p:Int)).f0∧(rd_T52 r (j:Int)).f1=(rd_T52 l (p:Int)).f1∧(rd_T52 r (j:Int)).f2=(rd_T52 l (p:Int)).f2:=by
 obtain ⟨r,pl,e,h,V⟩:=prune_full l hT
 have hp:=tm_pos hT
 have hat:=V.at_ (l.length - 1) (by omega) (mk_root l hp)
 rw [V.last (l.length - 1) (by omega) (mk_root l hp)] at hat
 refine ⟨r,e,h,?_,fun j hj=>?_⟩
 ·rw [hat.2]
  show (rd_T52 l ((l.length - 1:Nat):Int)).f1=_
  congr 2
  omega
 ·obtain ⟨p,h1,h2,_,h4⟩:=V.of j hj
  rw [h4]
  exact ⟨p,h1,h2,rfl,rfl,rfl⟩
theorem and255 (x:Int):0≤Go.bits .and .i64 x 255∧Go.bits .and .i64 x 255≤255:=by
 simp only [Go.bits,BitVec.toNat_and]
 have h:(BitVec.ofInt IntKind.i64.bits x).toNat &&& (BitVec.ofInt IntKind.i64.bits 255).toNat≤255:=Nat.le_trans Nat.and_le_right (by decide)
 rw [wraps_i64 _ (by omega) (by omega)]
 omega
def stOk (b:List Int) (i:Int):Prop:=0≤i∧i≤b.length∧b.length≤1099511627776
theorem byte_ok {b:List Int} {i:Int} (h:Int) (hi:stOk b i):∃ v i' h',spec_l01Byte.f b i h=some (v,i',h')∧0≤v∧v≤255∧stOk b i':=by
 unfold spec_l01Byte.f
 obtain ⟨h0,h1,h2⟩:=hi
 by_cases hc:i < (b.length:Int)
 ·rw [if_pos hc,if_pos h0]
  exact ⟨_,_,_,rfl,(and255 _).1,(and255 _).2,by rw [w64 (by omega) (by omega)];exact ⟨by omega,by omega,h2⟩⟩
 ·rw [if_neg hc]
  exact ⟨_,_,_,rfl,(and255 _).1,(and255 _).2,h0,h1,h2⟩
theorem below_ok {b:List Int} {i:Int} (h a:Int) (hi:stOk b i) (h0:0 < a) (h1:a≤256):∃ v i' h',spec_l01Below.f b i h a=some (v,i',h')∧0≤v∧v < a∧stOk b i':=by
 unfold spec_l01Below.f
 obtain ⟨v,i',h',e,hv0,hv1,hi'⟩:=byte_ok h hi
 rw [if_neg (by omega),if_pos h1,e,Option.bind_some,if_neg (by omega)]
 refine ⟨_,_,_,rfl,?_,?_,hi'⟩
 ·simp only;rw [Int.tmod_eq_emod_of_nonneg hv0];exact Int.emod_nonneg _ (by omega)
 ·simp only;rw [Int.tmod_eq_emod_of_nonneg hv0];exact Int.emod_lt_of_pos _ h0
theorem once_ok {b:List Int} {i:Int} (h a:Int) (hi:stOk b i) (h0:0 < a) (h1:a≤256):∃ t i' h',spec_l01Once.f b i h a=some (t,i',h')∧stOk b i':=by
 unfold spec_l01Once.f
 obtain ⟨v,i',h',e,_,_,hi'⟩:=below_ok h a hi h0 h1
 rw [e,Option.bind_some]
 exact ⟨_,_,_,rfl,hi'⟩
theorem st_zero {b:List Int} (hb:b.length≤1099511627776):stOk b 0:=⟨by omega,by omega,hb⟩
def nB (x:S52):Nat:=if x.f0=19∨x.f0=20 then x.f4.toNat else 0
def qB (l:List S52):Nat:=(l.map nB).sum
theorem qB_push (l:List S52) (x:S52):qB (l ++ [x])=qB l + nB x:=by simp [qB]
theorem nB_0 (x:S52) (h:x.f0≠19) (h2:x.f0≠20):nB x=0:=by unfold nB;rw [if_neg (by rintro (h3|h3);exact h h3;exact h2 h3)]
structure dpR (b:List Int) (l:List S52) (m:Nat) (g:Nat→Option (List S52 × Int × Int × Int)):Prop where
 ok:∃ l' a p q,Ev g (l',a,p,q)∧stOk b p∧l'.length≤l.length + m∧qB l'=qB l
theorem push_ok (l:List S52) (hl:l.length≤100000) (a b c d e f:Int):spec_l02Push.f l a b c d e f=some (l ++ [⟨a,b,c,d,e,f⟩],(l.length:Int)):=by
 unfold spec_l02Push.f
 rw [if_pos (by omega)]
theorem pw_ok (w:Int) (h1:1≤w) (h3:w≤3):∃ v:Int,Ev (fun k=>spec_l01Pow2.f k w) v∧0 < v∧v≤256:=by
 obtain ⟨n,rfl⟩:=Int.eq_ofNat_of_zero_le (show 0≤w by omega)
 have h2:(2:Nat) ^ n≤2 ^ 3:=Nat.pow_le_pow_right (by decide) (by omega)
 have h4:(2:Nat) ^ 3=8:=by decide
 have h0:=Nat.two_pow_pos n
 exact ⟨((2 ^ n:Nat):Int),ev_ge n (fun k hk=>by rw [pow2_eq n (by omega) k hk];norm_cast),by omega,by omega⟩
abbrev vrOk (vs:List S52):Prop:=vs.length≤100∧∀ x∈vs,x.f0=1∧1≤x.f1∧x.f1≤3
theorem rdN_mem (vs:List S52) (r:Int) (h0:0≤r) (h1:r < (vs.length:Int)):rd_T52 vs r∈vs:=by
 obtain ⟨n,rfl⟩:=Int.eq_ofNat_of_zero_le h0
 have h:n < vs.length:=by omega
 have e:rd_T52 vs (n:Int)=vs[n]:=by
  unfold rd_T52
  simp [List.getD_eq_getElem?_getD,List.getElem?_eq_getElem h]
 rw [e]
 exact List.getElem_mem h
def dG:Nat→Nat
 | 0=>1
 | d + 1=>3 * dG d + 1
section
variable {b:List Int} {vs:List S52}
theorem loop_ok (l:List S52) (w d:Int) (p q:Int) (R:(Nat→Option (List S52 × Int × Int × Int))→Prop) (hS:∀ g f,(∀ k,g (k + 1)=f k)→R f→R g)
  (hR:∀ ws:List Int,ws.length≤vs.length→(∀ x∈ws,0≤x∧x < (vs.length:Int))→R (fun k=>if d=0 then (spec_l02Deep.j1 k l vs w d ws true b p q) else (if (l.length:Int) > 40 then (spec_l02Deep.j1 k l vs w d ws true b p q) else ((spec_l01Once.f b p q 5).bind fun bt108=>(spec_l02Deep.j1 k l vs w d ws bt108.1 b bt108.2.1 bt108.2.2))))) (hv:vrOk vs) :
  ∀ e i,i + e=vs.length→∀ ws:List Int,ws.length≤i→(∀ x∈ws,0≤x∧x < (vs.length:Int))→R (fun k=>spec_l02Deep.l0 k l vs w d ws (i:Int) b p q):=by
 intro e
 induction e with
 | zero =>
  intro i hi ws h1 h2
  refine hS _ _ (fun k=>?_) (hR ws (by omega) h2)
  simp only [spec_l02Deep.l0,if_neg (show ¬ (i:Int) < (vs.length:Int) by omega)]
 | succ e ih =>
  intro i hi ws h1 h2
  have:=hv.1
  by_cases c:(rd_T52 vs (i:Int)).f1=w
  ·refine hS _ _ (fun k=>?_) (ih (i + 1) (by omega) (ws ++ [(i:Int)]) (by simp;omega) (fun x hx=>?_))
   ·simp only [spec_l02Deep.l0,if_pos (show (i:Int) < (vs.length:Int) by omega),if_pos (show 0≤(i:Int) by omega),if_pos c,if_pos (show ws.length < 17592186044416 by omega),w64s i (show i < 4611686018427387904 by omega)]
   ·rcases List.mem_append.1 hx with h|h
    ·exact h2 x h
    ·rw [List.mem_singleton.1 h]
     omega
  ·refine hS _ _ (fun k=>?_) (ih (i + 1) (by omega) ws (by omega) h2)
   simp only [spec_l02Deep.l0,if_pos (show (i:Int) < (vs.length:Int) by omega),if_pos (show 0≤(i:Int) by omega),if_neg c,w64s i (show i < 4611686018427387904 by omega)]
end
theorem dpR.step {b:List Int} {l:List S52} {m:Nat} {g f:Nat→Option (List S52 × Int × Int × Int)} (h:∀ k,g (k + 1)=f k) (e:dpR b l m f):dpR b l m g:=by
 obtain ⟨l',a,p,q,e,h2⟩:=e.ok
 exact ⟨l',a,p,q,ev_step h e,h2⟩
theorem dpR.eq {b:List Int} {l:List S52} {m:Nat} {g f:Nat→Option (List S52 × Int × Int × Int)} (h:∀ k,g k=f k) (e:dpR b l m f):dpR b l m g:=by
 obtain ⟨l',a,p,q,e,h2⟩:=e.ok
 exact ⟨l',a,p,q,ev_eq h e,h2⟩
theorem dpR.bind {b:List Int} {l:List S52} {m m1 m2:Nat} {g:Nat→Option (List S52 × Int × Int × Int)} {F:Nat→List S52 × Int × Int × Int→Option (List S52 × Int × Int × Int)} (h:dpR b l m1 g)
  (e:∀ l' a p q,stOk b p→l'.length≤l.length + m1→dpR b l' m2 (fun k=>F k (l',a,p,q))) (hm:m1 + m2≤m):dpR b l m (fun k=>(g k).bind (F k)):=by
 obtain ⟨l',a,p,q,e1,h1,h2,h3⟩:=h.ok
 obtain ⟨l2,a2,p2,q2,f1,g1,g2,g3⟩:=(e l' a p q h1 h2).ok
 exact ⟨l2,a2,p2,q2,ev_bind e1 f1,g1,by omega,by rw [g3,h3]⟩
theorem dpR.push {b:List Int} {l:List S52} {m:Nat} (p q:Int) (hp:stOk b p) (hl:l.length≤100000) (hm:1≤m) (a0 a1 a2 a3 a4 a5:Int) (h19:a0≠19) (h20:a0≠20):dpR b l m (fun _=>(spec_l02Push.f l a0 a1 a2 a3 a4 a5).bind fun r=>some (r.1,r.2,p,q)):=by
 rw [push_ok l hl]
 exact ⟨_,_,p,q,ev_some _,hp,by simp;omega,by rw [qB_push,nB_0 _ h19 h20];omega⟩
theorem dpR.mono {b:List Int} {l:List S52} {m m':Nat} {g:Nat→Option (List S52 × Int × Int × Int)} (h:dpR b l m g) (hm:m≤m'):dpR b l m' g:=by
 obtain ⟨l',a,p,q,e1,h1,h2,h3⟩:=h.ok
 exact ⟨l',a,p,q,e1,h1,by omega,h3⟩
section
variable {b:List Int} {vs:List S52} (hv:vrOk vs) {l:List S52} (hl:l.length≤100000) {w d:Int} {ws:List Int} (h1:1≤w) (h3:w≤3) {p q:Int} (hp:stOk b p)
include hl h1 h3 in
theorem j2f_ok (hp:stOk b p):dpR b l 1 (fun k=>spec_l02Deep.j2 k l vs w ws false b p q):=by
 obtain ⟨v,e,v0,v1⟩:=pw_ok w h1 h3
 obtain ⟨r,p1,q1,hb,_,_,hp1⟩:=below_ok q v hp v0 v1
 refine dpR.step (f:=fun k=>(spec_l01Pow2.f k w).bind fun t123=>((spec_l01Below.f b p q t123).bind fun bt124=>((spec_l02Push.f l 0 w bt124.1 0 0 0).bind fun bt127=>(some (bt127.1,bt127.2,bt124.2.1,bt124.2.2))))) (fun k=>by simp only [spec_l02Deep.j2,Bool.false_eq_true,if_false]) ?_
 obtain ⟨l',a,p2,q2,e2,h2⟩:=(dpR.push p1 q1 hp1 hl (Nat.le_refl 1) 0 w r 0 0 0 (by decide) (by decide):dpR b l 1 _).ok
 refine ⟨l',a,p2,q2,ev_bind (a:=v) (f:=fun k t123=>((spec_l01Below.f b p q t123).bind fun bt124=>((spec_l02Push.f l 0 w bt124.1 0 0 0).bind fun bt127=>(some (bt127.1,bt127.2,bt124.2.1,bt124.2.2))))) e ?_,h2⟩
 simp only [hb,Option.bind_some]
 exact e2
include hv hl in
theorem j2t_ok (hw0:0 < ws.length) (hw1:ws.length≤vs.length) (hw2:∀ x∈ws,0≤x∧x < (vs.length:Int)) (hp:stOk b p):dpR b l 1 (fun k=>spec_l02Deep.j2 k l vs w ws true b p q):=by
 have hv1:=hv.1
 obtain ⟨r,p1,q1,hb,r0,r1,hp1⟩:=below_ok q (ws.length:Int) hp (by omega) (by omega)
 have hm:rd ws r∈ws:=by
  obtain ⟨n,rfl⟩:=Int.eq_ofNat_of_zero_le r0
  rw [rd_nat,getD_lt ws n _ (by omega)]
  exact List.getElem_mem _
 obtain ⟨x0,x1⟩:=hw2 _ hm
 have hx:=(hv.2 _ (rdN_mem vs (rd ws r) x0 x1)).1
 refine dpR.step (f:=fun _=>(spec_l02Push.f l (rd_T52 vs (rd ws r)).f0 (rd_T52 vs (rd ws r)).f1 (rd_T52 vs (rd ws r)).f2 (rd_T52 vs (rd ws r)).f3 (rd_T52 vs (rd ws r)).f4 (rd_T52 vs (rd ws r)).f5).bind fun r=>some (r.1,r.2,p1,q1)) (fun k=>?_) (dpR.push p1 q1 hp1 hl (Nat.le_refl 1) _ _ _ _ _ _ (by omega) (by omega))
 simp only [spec_l02Deep.j2,if_true,hb,Option.bind_some,if_pos r0,if_pos r1,if_pos x0,if_pos x1]
include hv hl h1 h3 in
theorem j1t_ok (hw1:ws.length≤vs.length) (hw2:∀ x∈ws,0≤x∧x < (vs.length:Int)) (hp:stOk b p):dpR b l 1 (fun k=>spec_l02Deep.j1 k l vs w d ws true b p q):=by
 by_cases c:(ws.length:Int) > 0
 ·obtain ⟨o,p1,q1,hb,hp1⟩:=once_ok q 4 hp (by decide) (by decide)
  refine dpR.step (f:=fun k=>spec_l02Deep.j2 k l vs w ws (!o) b p1 q1) (fun k=>by simp only [spec_l02Deep.j1,if_true,if_pos c,hb,Option.bind_some]) ?_
  cases o with
  | true=>exact j2f_ok hl h1 h3 hp1
  | false=>exact j2t_ok hv hl (by omega) hw1 hw2 hp1
 ·refine dpR.step (f:=fun k=>spec_l02Deep.j2 k l vs w ws false b p q) (fun k=>by simp only [spec_l02Deep.j1,if_true,if_neg c]) (j2f_ok hl h1 h3 hp)
end
section
variable {b:List Int} {vs:List S52} (hv:vrOk vs) {m:Nat} {D:Int} (hD:∀ (w:Int) (l:List S52) (p q:Int),1≤w→w≤3→stOk b p→l.length + m≤100000→dpR b l m (fun k=>spec_l02Deep.f k b p q l vs w (wrap64 (D - 1))))
 {l:List S52} (hl:l.length + (3 * m + 1)≤100000) {w:Int} (h1:1≤w) (h3:w≤3) {p q:Int} (hp:stOk b p)
include hD hl h1 h3 in
theorem j4_ok (hp:stOk b p):dpR b l (3 * m + 1) (fun k=>spec_l02Deep.j4 k l vs w D b p q):=by
 refine dpR.step (fun k=>by simp only [spec_l02Deep.j4];rfl) ?_
 refine dpR.bind (m1:=m) (m2:=2 * m + 1) (hD w l p q h1 h3 hp (by omega)) (fun l1 a1 p1 q1 hp1 hl1=>?_) (by omega)
 refine dpR.bind (m1:=m) (m2:=m + 1) (hD w l1 p1 q1 h1 h3 hp1 (by omega)) (fun l2 a2 p2 q2 hp2 hl2=>?_) (by omega)
 obtain ⟨r,p3,q3,hb,r0,r1,hp3⟩:=below_ok q2 10 hp2 (by decide) (by decide)
 simp only [hb,Option.bind_some]
 have hw:wrap64 (3 + r)=3 + r:=w64 (by omega) (by omega)
 exact dpR.push p3 q3 hp3 (by omega) (by omega) _ _ _ _ _ _ (by omega) (by omega)
include hv hD hl in
theorem j3t_ok (h0:0 < vs.length) (hp:stOk b p):dpR b l (3 * m + 1) (fun k=>spec_l02Deep.j3 k l vs w D true b p q):=by
 have hv1:=hv.1
 obtain ⟨r,p0,q0,hb,r0,r1,hp0⟩:=below_ok q (vs.length:Int) hp (by omega) (by omega)
 have hx:=hv.2 _ (rdN_mem vs r r0 r1)
 refine dpR.step (fun k=>by simp only [spec_l02Deep.j3,if_true,hb,Option.bind_some,if_pos r0,if_pos r1];rfl) ?_
 refine dpR.bind (m1:=m) (m2:=2 * m + 1) (hD _ l p0 q0 hx.2.1 hx.2.2 hp0 (by omega)) (fun l1 a1 p1 q1 hp1 hl1=>?_) (by omega)
 refine dpR.bind (m1:=m) (m2:=m + 1) (hD _ l1 p1 q1 hx.2.1 hx.2.2 hp1 (by omega)) (fun l2 a2 p2 q2 hp2 hl2=>?_) (by omega)
 obtain ⟨r',p3,q3,hb',r0',r1',hp3⟩:=below_ok q2 3 hp2 (by decide) (by decide)
 simp only [hb',Option.bind_some]
 have hw:wrap64 (13 + r')=13 + r':=w64 (by omega) (by omega)
 exact dpR.push p3 q3 hp3 (by omega) (by omega) _ _ _ _ _ _ (by omega) (by omega)
include hv hD hl h1 h3 in
theorem j3f_ok (hp:stOk b p):dpR b l (3 * m + 1) (fun k=>spec_l02Deep.j3 k l vs w D false b p q):=by
 have hv1:=hv.1
 obtain ⟨r,p0,q0,hb,r0,r1,hp0⟩:=below_ok q 8 hp (by decide) (by decide)
 by_cases z0:r=0
 ·refine dpR.step (fun k=>by simp only [spec_l02Deep.j3,Bool.false_eq_true,if_false,hb,Option.bind_some,if_pos z0];rfl) ?_
  refine dpR.bind (m1:=m) (m2:=2 * m + 1) (hD _ l p0 q0 h1 h3 hp0 (by omega)) (fun l1 a1 p1 q1 hp1 hl1=>?_) (by omega)
  exact dpR.push p1 q1 hp1 (by omega) (by omega) _ _ _ _ _ _ (by decide) (by decide)
 by_cases z1:r=1
 ·by_cases c:w > 1
  ·obtain ⟨r',p1,q1,hb',r0',r1',hp1⟩:=below_ok q0 (wrap64 (w - 1)) hp0 (by rw [w64 (by omega) (by omega)];omega) (by rw [w64 (by omega) (by omega)];omega)
   rw [w64 (show -9223372036854775808≤w - 1 by omega) (by omega)] at r1'
   have e1:wrap64 (1 + r')=1 + r':=w64 (by omega) (by omega)
   have e2:wrap64 (w - (1 + r'))=w - (1 + r'):=w64 (by omega) (by omega)
   refine dpR.step (fun k=>by simp only [spec_l02Deep.j3,Bool.false_eq_true,if_false,hb,Option.bind_some,if_neg z0,if_pos z1,if_pos c,hb',e1,e2];rfl) ?_
   refine dpR.bind (m1:=m) (m2:=2 * m + 1) (hD _ l p1 q1 (by omega) (by omega) hp1 (by omega)) (fun l1 a1 p2 q2 hp2 hl1=>?_) (by omega)
   refine dpR.bind (m1:=m) (m2:=m + 1) (hD _ l1 p2 q2 (by omega) (by omega) hp2 (by omega)) (fun l2 a2 p3 q3 hp3 hl2=>?_) (by omega)
   exact dpR.push p3 q3 hp3 (by omega) (by omega) _ _ _ _ _ _ (by decide) (by decide)
  ·exact dpR.step (fun k=>by simp only [spec_l02Deep.j3,Bool.false_eq_true,if_false,hb,Option.bind_some,if_neg z0,if_pos z1,if_neg c]) (j4_ok hD hl h1 h3 (q:=q0) hp0)
 by_cases z2:r=2
 ·by_cases c:(vs.length:Int) > 0
  ·obtain ⟨r',p1,q1,hb',r0',r1',hp1⟩:=below_ok q0 (vs.length:Int) hp0 (by omega) (by omega)
   have hx:=hv.2 _ (rdN_mem vs r' r0' r1')
   by_cases c2:(rd_T52 vs r').f1 > w
   ·have e1:wrap64 (wrap64 ((rd_T52 vs r').f1 - w) + 1)=(rd_T52 vs r').f1 - w + 1:=by rw [w64 (show -9223372036854775808≤(rd_T52 vs r').f1 - w by omega) (by omega),w64 (by omega) (by omega)]
    refine dpR.step (fun k=>by simp only [spec_l02Deep.j3,Bool.false_eq_true,if_false,hb,Option.bind_some,if_neg z0,if_neg z1,if_pos z2,if_pos c,hb',if_pos r0',if_pos r1',if_pos c2,e1];rfl) ?_
    refine dpR.bind (m1:=m) (m2:=2 * m + 1) (hD _ l p1 q1 hx.2.1 hx.2.2 hp1 (by omega)) (fun l1 a1 p2 q2 hp2 hl1=>?_) (by omega)
    obtain ⟨r3,p3,q3,hb3,_,_,hp3⟩:=below_ok q2 ((rd_T52 vs r').f1 - w + 1) hp2 (by omega) (by omega)
    simp only [hb3,Option.bind_some]
    exact dpR.push p3 q3 hp3 (by omega) (by omega) _ _ _ _ _ _ (by decide) (by decide)
   ·exact dpR.step (fun k=>by simp only [spec_l02Deep.j3,Bool.false_eq_true,if_false,hb,Option.bind_some,if_neg z0,if_neg z1,if_pos z2,if_pos c,hb',if_pos r0',if_pos r1',if_neg c2]) (j4_ok hD hl h1 h3 (q:=q1) hp1)
  ·exact dpR.step (fun k=>by simp only [spec_l02Deep.j3,Bool.false_eq_true,if_false,hb,Option.bind_some,if_neg z0,if_neg z1,if_pos z2,if_neg c]) (j4_ok hD hl h1 h3 (q:=q0) hp0)
 by_cases z3:r=3
 ·refine dpR.step (fun k=>by simp only [spec_l02Deep.j3,Bool.false_eq_true,if_false,hb,Option.bind_some,if_neg z0,if_neg z1,if_neg z2,if_pos z3];rfl) ?_
  refine dpR.bind (m1:=m) (m2:=2 * m + 1) (hD 1 l p0 q0 (by decide) (by decide) hp0 (by omega)) (fun l1 a1 p1 q1 hp1 hl1=>?_) (by omega)
  refine dpR.bind (m1:=m) (m2:=m + 1) (hD _ l1 p1 q1 h1 h3 hp1 (by omega)) (fun l2 a2 p2 q2 hp2 hl2=>?_) (by omega)
  refine dpR.bind (m1:=m) (m2:=1) (hD _ l2 p2 q2 h1 h3 hp2 (by omega)) (fun l3 a3 p3 q3 hp3 hl3=>?_) (by omega)
  exact dpR.push p3 q3 hp3 (by omega) (by omega) _ _ _ _ _ _ (by decide) (by decide)
 ·exact dpR.step (fun k=>by simp only [spec_l02Deep.j3,Bool.false_eq_true,if_false,hb,Option.bind_some,if_neg z0,if_neg z1,if_neg z2,if_neg z3]) (j4_ok hD hl h1 h3 (q:=q0) hp0)
end
theorem deep_ok (b:List Int) (vs:List S52) (hv:vrOk vs):∀ d:Nat,d≤4→∀ (w:Int),1≤w→w≤3→∀ (l:List S52) (p q:Int),stOk b p→l.length + dG d≤100000→dpR b l (dG d) (fun k=>spec_l02Deep.f k b p q l vs w (d:Int)):=by
 intro d
 induction d with
 | zero =>
  intro _ w h1 h3 l p q hp hl
  refine dpR.step (f:=fun k=>spec_l02Deep.l0 k l vs w ((0:Nat):Int) [] ((0:Nat):Int) b p q) (fun k=>rfl) (loop_ok l w _ p q _ (fun _ _=>dpR.step) (fun ws hw1 hw2=>?_) hv vs.length 0 (by omega) [] (by simp) (by simp))
  simp only [if_pos (show ((0:Nat):Int)=0 from rfl)]
  exact j1t_ok hv (by omega) h1 h3 hw1 hw2 hp
 | succ d ih =>
  intro hd w h1 h3 l p q hp hl
  have hd1:wrap64 (((d + 1:Nat):Int) - 1)=(d:Int):=by rw [w64 (by omega) (by omega)];omega
  have hD:∀ (w:Int) (l:List S52) (p q:Int),1≤w→w≤3→stOk b p→l.length + dG d≤100000→dpR b l (dG d) (fun k=>spec_l02Deep.f k b p q l vs w (wrap64 (((d + 1:Nat):Int) - 1))):=fun w l p q h1 h3 hp hl=>by rw [hd1];exact ih (by omega) w h1 h3 l p q hp hl
  simp only [dG] at hl ⊢
  refine dpR.step (f:=fun k=>spec_l02Deep.l0 k l vs w ((d + 1:Nat):Int) [] ((0:Nat):Int) b p q) (fun k=>rfl) (loop_ok l w _ p q _ (fun _ _=>dpR.step) (fun ws hw1 hw2=>?_) hv vs.length 0 (by omega) [] (by simp) (by simp))
  simp only [if_neg (show ¬ ((d + 1:Nat):Int)=0 by omega)]
  by_cases c:(l.length:Int) > 40
  ·simp only [if_pos c]
   exact (j1t_ok hv (by omega) h1 h3 hw1 hw2 hp).mono (by omega)
  simp only [if_neg c]
  obtain ⟨o,p1,q1,hb,hp1⟩:=once_ok q 5 hp (by decide) (by decide)
  simp only [hb,Option.bind_some]
  cases o with
  | true=>exact (j1t_ok hv (by omega) h1 h3 hw1 hw2 hp1).mono (by omega)
  | false =>
   by_cases c1:w=1
   ·by_cases c2:(vs.length:Int) > 0
    ·obtain ⟨o,p2,q2,hb2,hp2⟩:=once_ok q1 2 hp1 (by decide) (by decide)
     refine dpR.step (f:=fun k=>spec_l02Deep.j3 k l vs w ((d + 1:Nat):Int) o b p2 q2) (fun k=>by simp only [spec_l02Deep.j1,Bool.false_eq_true,if_false,if_pos c1,if_pos c2,hb2,Option.bind_some]) ?_
     cases o with
     | true=>exact j3t_ok hv hD hl (by omega) hp2
     | false=>exact j3f_ok hv hD hl h1 h3 hp2
    ·exact dpR.step (fun k=>by simp only [spec_l02Deep.j1,Bool.false_eq_true,if_false,if_pos c1,if_neg c2]) (j3f_ok hv hD hl h1 h3 (q:=q1) hp1)
   ·exact dpR.step (fun k=>by simp only [spec_l02Deep.j1,Bool.false_eq_true,if_false,if_neg c1]) (j3f_ok hv hD hl h1 h3 (q:=q1) hp1)
def mdR (b:List Int) (l:List S52) (bs nx:Int) (m:Nat) (g:Nat→Option (List S52 × Int × Int × Int × Int × Int)):Prop :=
 ∃ l' a nx' bs' p q,Ev g (l',a,nx',bs',p,q)∧stOk b p∧l'.length≤l.length + m∧((qB l':Nat):Int) + bs'=((qB l:Nat):Int) + bs∧0≤bs'∧bs'≤bs∧nx≤nx'∧nx'≤8
theorem mdR.step {b:List Int} {l:List S52} {bs nx:Int} {m:Nat} {g f:Nat→Option (List S52 × Int × Int × Int × Int × Int)} (h:∀ k,g (k + 1)=f k) (e:mdR b l bs nx m f):mdR b l bs nx m g:=by
 obtain ⟨l',a,nx',bs',p,q,e,h2⟩:=e
 exact ⟨l',a,nx',bs',p,q,ev_step h e,h2⟩
theorem mdR.bind {b:List Int} {l l2:List S52} {bs nx bs2 nx2:Int} {m m2:Nat} {g:Nat→Option (List S52 × Int × Int × Int × Int × Int)} {F:Nat→List S52 × Int × Int × Int × Int × Int→Option (List S52 × Int × Int × Int × Int × Int)} (h:mdR b l2 bs2 nx2 m2 g)
  (e:∀ l' a nx' bs' p q,stOk b p→l'.length≤l2.length + m2→((qB l':Nat):Int) + bs'=((qB l2:Nat):Int) + bs2→0≤bs'→bs'≤bs2→nx2≤nx'→nx'≤8→mdR b l bs nx m (fun k=>F k (l',a,nx',bs',p,q))):mdR b l bs nx m (fun k=>(g k).bind (F k)):=by
 obtain ⟨l',a,nx',bs',p,q,e1,h1,h2,h3,h4,h5,h6,h7⟩:=h
 obtain ⟨l3,a3,nx3,bs3,p3,q3,e3,g3⟩:=e l' a nx' bs' p q h1 h2 h3 h4 h5 h6 h7
 exact ⟨l3,a3,nx3,bs3,p3,q3,ev_bind e1 e3,g3⟩
theorem mdR.deep {b:List Int} {l l2:List S52} {bs nx:Int} {m m2:Nat} {g:Nat→Option (List S52 × Int × Int × Int)} {F:Nat→List S52 × Int × Int × Int→Option (List S52 × Int × Int × Int × Int × Int)} (h:dpR b l2 m2 g)
  (e:∀ l' a p q,stOk b p→l'.length≤l2.length + m2→qB l'=qB l2→mdR b l bs nx m (fun k=>F k (l',a,p,q))):mdR b l bs nx m (fun k=>(g k).bind (F k)):=by
 obtain ⟨l',a,p,q,e1,h1,h2,h3⟩:=h.ok
 obtain ⟨l3,a3,nx3,bs3,p3,q3,e3,g3⟩:=e l' a p q h1 h2 h3
 exact ⟨l3,a3,nx3,bs3,p3,q3,ev_bind e1 e3,g3⟩
theorem mdW_ok {r bs:Int} (r0:0≤r) (r1:r < 3) (b0:0 < bs) (b8:bs≤8):1≤mdW r bs∧mdW r bs≤3∧mdW r bs≤bs:=by
 unfold mdW
 rw [w64 (show -9223372036854775808≤1 + r by omega) (by omega)]
 split <;> omega
def mdT (b:List Int) (nx bs p q D:Int):Option (Bool × Int × Int):=(if D > 0 then (if nx < 8 then (if bs > 0 then ((spec_l01Once.f b p q 5).bind fun o=>some (!o.1,o.2.1,o.2.2)) else some (false,p,q)) else some (false,p,q)) else some (false,p,q))
theorem mdT_ok {b:List Int} (nx bs p q D:Int) (hp:stOk b p):∃ t p1 q1,mdT b nx bs p q D=some (t,p1,q1)∧stOk b p1∧(t=true→D > 0∧nx < 8∧bs > 0):=by
 unfold mdT
 by_cases h1:D > 0
 ·by_cases h2:nx < 8
  ·by_cases h3:bs > 0
   ·obtain ⟨o,p1,q1,hb,hp1⟩:=once_ok q 5 hp (by decide) (by decide)
    rw [if_pos h1,if_pos h2,if_pos h3,hb]
    exact ⟨!o,p1,q1,rfl,hp1,fun _=>⟨h1,h2,h3⟩⟩
   ·rw [if_pos h1,if_pos h2,if_neg h3]
    exact ⟨_,_,_,rfl,hp,fun h=>by cases h⟩
  ·rw [if_pos h1,if_neg h2]
   exact ⟨_,_,_,rfl,hp,fun h=>by cases h⟩
 ·rw [if_neg h1]
  exact ⟨_,_,_,rfl,hp,fun h=>by cases h⟩
theorem madeStep {b:List Int} (D:Int) (m:Nat) (hD:D > 0→∀ (l vs:List S52) (nx bs p q:Int),stOk b p→0≤nx→nx≤8→0≤bs→bs≤8→vrOk vs→(vs.length:Int)≤nx→l.length + m≤100000→mdR b l bs nx m (fun k=>spec_l02Made.f k b p q l vs nx bs (wrap64 (D - 1)))) :
  ∀ (l vs:List S52) (nx bs p q:Int),stOk b p→0≤nx→nx≤8→0≤bs→bs≤8→vrOk vs→(vs.length:Int)≤nx→l.length + (2 * m + 41)≤100000→mdR b l bs nx (2 * m + 41) (fun k=>spec_l02Made.f k b p q l vs nx bs D):=by
 intro l vs nx bs p q hp n0 n8 b0 b8 hv hvn hl
 obtain ⟨t,p1,q1,hT,hp1,ht⟩:=mdT_ok nx bs p q D hp
 unfold mdT at hT
 refine mdR.step (fun k=>by simp only [spec_l02Made.f,hT,Option.bind_some];rfl) ?_
 cases t with
 | true =>
  obtain ⟨hd0,hn,hb⟩:=ht rfl
  obtain ⟨r,p2,q2,e2,r0,r1,hp2⟩:=below_ok q1 3 hp1 (by decide) (by decide)
  obtain ⟨o,p3,q3,e3,o0,o1,hp3⟩:=below_ok q2 2 hp2 (by decide) (by decide)
  obtain ⟨w1,w3,wb⟩:=mdW_ok r0 r1 hb b8
  have x1:wrap64 (nx + 1)=nx + 1:=w64 (by omega) (by omega)
  have x2:wrap64 (bs - mdW r bs)=bs - mdW r bs:=w64 (by omega) (by omega)
  have x3:wrap64 (19 + o)=19 + o:=w64 (by omega) (by omega)
  simp only [if_true,e2,e3,Option.bind_some,if_pos (show vs.length < 2932031007401 by omega),x1,x2,x3]
  refine mdR.bind (hD hd0 l (vs ++ [⟨1,mdW r bs,nx,0,0,0⟩]) (nx + 1) (bs - mdW r bs) p3 q3 hp3 (by omega) (by omega) (by omega) (by omega) ⟨by simp;omega,fun x hx=>?_⟩ (by simp;omega) (by omega)) (fun l' a nx' bs' p' q' hp' hl' hq hb0 hb1 hn0 hn1=>?_)
  ·rcases List.mem_append.1 hx with h|h
   ·exact hv.2 x h
   ·rw [List.mem_singleton.1 h]
    exact ⟨rfl,w1,w3⟩
  ·simp only [push_ok l' (by omega),Option.bind_some]
   have hnB:((nB (⟨19 + o,1,nx,a,mdW r bs,0⟩:S52):Nat):Int)=mdW r bs:=by
    unfold nB
    rw [if_pos (show 19 + o=19∨19 + o=20 by omega)]
    show ((mdW r bs).toNat:Int)=_
    omega
   exact ⟨_,_,_,_,_,_,ev_some _,hp',by simp;omega,by rw [qB_push];omega,hb0,by omega,by omega,hn1⟩
 | false =>
  obtain ⟨r,p2,q2,e2,r0,r1,hp2⟩:=below_ok q1 5 hp1 (by decide) (by decide)
  simp only [Bool.false_eq_true,if_false,e2,Option.bind_some]
  by_cases c0:r=0∧D > 0
  ·simp only [if_pos c0]
   refine mdR.bind (hD c0.2 l vs nx bs p2 q2 hp2 n0 n8 b0 b8 hv hvn (by omega)) (fun l' a nx' bs' p' q' hp' hl' hq hb0 hb1 hn0 hn1=>?_)
   simp only [push_ok l' (by omega),Option.bind_some]
   exact ⟨_,_,_,_,_,_,ev_some _,hp',by simp;omega,by rw [qB_push,nB_0 _ (by show (2:Int)≠19;decide) (by show (2:Int)≠20;decide)];omega,hb0,hb1,hn0,hn1⟩
  simp only [if_neg c0]
  by_cases c1:(r=1∨r=2)∧D > 0
  ·simp only [if_pos c1]
   refine mdR.bind (hD c1.2 l vs nx bs p2 q2 hp2 n0 n8 b0 b8 hv hvn (by omega)) (fun l' a nx' bs' p' q' hp' hl' hq hb0 hb1 hn0 hn1=>?_)
   refine mdR.bind (hD c1.2 l' vs nx' bs' p' q' hp' (by omega) hn1 hb0 (by omega) hv (by omega) (by omega)) (fun l2 a2 nx2 bs2 p3 q3 hp3 hl2 hq2 hb2 hb3 hn2 hn3=>?_)
   obtain ⟨o,p4,q4,e4,o0,o1,hp4⟩:=below_ok q3 2 hp3 (by decide) (by decide)
   have x3:wrap64 (3 + o)=3 + o:=w64 (by omega) (by omega)
   simp only [e4,x3,push_ok l2 (by omega),Option.bind_some]
   exact ⟨_,_,_,_,_,_,ev_some _,hp4,by simp;omega,by rw [qB_push,nB_0 _ (by show (3 + o:Int)≠19;omega) (by show (3 + o:Int)≠20;omega)];omega,hb2,by omega,by omega,hn3⟩
  ·simp only [if_neg c1]
   refine mdR.deep (deep_ok b vs hv 3 (by decide) 1 (by decide) (by decide) l p2 q2 hp2 (by simp only [dG];omega)) (fun l' a p' q' hp' hl' hq=>?_)
   simp only [dG] at hl'
   exact ⟨l',a,nx,bs,p',q',ev_some _,hp',by omega,by rw [hq],b0,Int.le_refl _,Int.le_refl _,n8⟩
def mG:Nat→Nat
 | 0=>41
 | d + 1=>2 * mG d + 41
theorem made_ok (b:List Int):∀ d:Nat,d≤4→∀ (l vs:List S52) (nx bs p q:Int),stOk b p→0≤nx→nx≤8→0≤bs→bs≤8→vrOk vs→(vs.length:Int)≤nx→l.length + mG d≤100000→mdR b l bs nx (mG d) (fun k=>spec_l02Made.f k b p q l vs nx bs (d:Int)):=by
 intro d
 induction d with
 | zero =>
  intro _
  exact madeStep (b:=b) ((0:Nat):Int) 0 (fun h=>absurd h (by decide))
 | succ d ih =>
  intro hd
  have hd1:wrap64 (((d + 1:Nat):Int) - 1)=(d:Int):=by rw [w64 (by omega) (by omega)];omega
  have:=madeStep (b:=b) ((d + 1:Nat):Int) (mG d) (fun _=>by rw [hd1];exact ih (by omega))
  exact this
def sm (f:Nat→Nat):Nat→Nat
 | 0=>0
 | n + 1=>sm f n + f n
theorem sm_le {f g:Nat→Nat}:∀ n,(∀ j,j < n→f j≤g j)→sm f n≤sm g n:=by
 intro n
 induction n with
 | zero=>intro _;exact Nat.le_refl _
 | succ n ih =>
  intro h
  have:=ih (fun j hj=>h j (by omega))
  have:=h n (by omega)
  simp only [sm]
  omega
theorem sm_eq {f g:Nat→Nat}:∀ n,(∀ j,j < n→f j=g j)→sm f n=sm g n:=by
 intro n
 induction n with
 | zero=>intro _;rfl
 | succ n ih =>
  intro h
  have:=ih (fun j hj=>h j (by omega))
  have:=h n (by omega)
  simp only [sm]
  omega
theorem sm_add (f g:Nat→Nat):∀ n,sm (fun j=>f j + g j) n=sm f n + sm g n:=by
 intro n
 induction n with
 | zero=>rfl
 | succ n ih=>simp only [sm,ih];omega
theorem sm_zero {f:Nat→Nat}:∀ n,(∀ j,j < n→f j=0)→sm f n=0:=by
 intro n
 induction n with
 | zero=>intro _;rfl
 | succ n ih =>
  intro h
  have:=ih (fun j hj=>h j (by omega))
  have:=h n (by omega)
  simp only [sm]
  omega
theorem sm_ge {f:Nat→Nat}:∀ n j,j < n→f j≤sm f n:=by
 intro n
 induction n with
 | zero=>intro j h;omega
 | succ n ih =>
  intro j h
  simp only [sm]
  rcases Nat.lt_succ_iff_lt_or_eq.1 h with h1|rfl
  ·have:=ih j h1;omega
  ·omega
theorem sm_one (a c:Nat):∀ n,sm (fun j=>if a=j then c else 0) n=if a < n then c else 0:=by
 intro n
 induction n with
 | zero=>rfl
 | succ n ih =>
  simp only [sm,ih]
  by_cases h:a < n
  ·rw [if_pos h,if_neg (by omega),if_pos (by omega)];rfl
  ·by_cases h2:a=n
   ·rw [if_neg h,if_pos h2,if_pos (by omega)];omega
   ·rw [if_neg h,if_neg h2,if_neg (by omega)]
theorem sm_count (f:Nat→Nat) (n:Nat):∀ V:List Nat,(∀ j∈V,j < n)→(V.map f).sum=sm (fun j=>V.count j * f j) n:=by
 intro V
 induction V with
 | nil=>intro _;rw [sm_zero];rfl;intro j _;simp
 | cons a V ih =>
  intro h
  have ha:=h a (List.mem_cons_self ..)
  rw [List.map_cons,List.sum_cons,ih (fun j hj=>h j (List.mem_cons_of_mem _ hj))]
  have e:sm (fun j=>(a :: V).count j * f j) n=sm (fun j=>V.count j * f j + (if a=j then f a else 0)) n:=sm_eq n (fun j _=>by
   rw [List.count_cons]
   by_cases he:a=j
   ·subst he
    simp [Nat.add_mul]
   ·simp [he])
  rw [e,sm_add,sm_one,if_pos ha]
  omega
def vsF (l:List S52) (H:List Bool):Nat→Nat→List Nat
 | 0,_=>[]
 | d + 1,i=>if rdOf false H (i:Int)=true then i :: (np (rd_T52 l (i:Int))).flatMap (fun p=>vsF l H d p.toNat) else []
theorem vs_mem (l:List S52) (hT:tmF l=true):∀ d i,i < d→i < l.length→rdOf false (mkS l) (i:Int)=true→∀ j∈vsF l (hoS l) d i,j≤i∧rdOf false (hoS l) (j:Int)=true∧rdOf false (mkS l) (j:Int)=true:=by
 intro d
 induction d with
 | zero=>intro i h;omega
 | succ d ih =>
  intro i hd hi hm j hj
  simp only [vsF] at hj
  split at hj
  ·next hh =>
   rcases List.mem_cons.1 hj with rfl|hj
   ·exact ⟨Nat.le_refl _,hh,hm⟩
   ·obtain ⟨p,hp,hj⟩:=List.mem_flatMap.1 hj
    have hb:=tm_parts l hT i hi p hp
    have hmp:=mk_parts l hT i hi hm p hp
    obtain ⟨q,rfl⟩:=Int.eq_ofNat_of_zero_le hb.1
    have:=ih q (by omega) (by omega) hmp j (by simpa using hj)
    exact ⟨by omega,this.2⟩
  ·cases hj
theorem vs_count (l:List S52) (hT:tmF l=true) (p:Nat) (hp:rdOf false (hoS l) (p:Int)=true):∀ d i,i < d→i < l.length→rdOf false (hoS l) (i:Int)=true →
  (vsF l (hoS l) d i).count p=(if p=i then 1 else 0) + ((vsF l (hoS l) d i).map fun j:Nat=>(np (rd_T52 l (j:Int))).count (p:Int)).sum:=by
 intro d
 induction d with
 | zero=>intro i h;omega
 | succ d ih =>
  intro i hd hi hh
  simp only [vsF,if_pos hh]
  have hb:=tm_parts l hT i hi
  have key:∀ ps:List Int,(∀ x∈ps,0≤x∧x≤(i:Int) - 1)→(ps.flatMap fun x=>vsF l (hoS l) d x.toNat).count p=ps.count (p:Int) + ((ps.flatMap fun x=>vsF l (hoS l) d x.toNat).map fun j:Nat=>(np (rd_T52 l (j:Int))).count (p:Int)).sum:=by
   intro ps
   induction ps with
   | nil=>intro _;rfl
   | cons x ps ih2 =>
    intro hx
    have hx0:=hx x (List.mem_cons_self ..)
    have:=ih2 (fun y hy=>hx y (List.mem_cons_of_mem _ hy))
    rw [List.flatMap_cons,List.count_append,List.map_append,List.sum_append,this,List.count_cons]
    obtain ⟨q,rfl⟩:=Int.eq_ofNat_of_zero_le hx0.1
    rw [Int.toNat_natCast]
    by_cases hq:rdOf false (hoS l) (q:Int)=true
    ·rw [ih q (by omega) (by omega) hq]
     by_cases e:p=q
     ·subst e
      simp
      omega
     ·rw [if_neg e]
      have:¬ ((q:Int) == (p:Int))=true:=by simp;omega
      rw [if_neg this]
      omega
    ·have hz:vsF l (hoS l) d q=[]:=by
      cases d with
      | zero=>rfl
      | succ d=>simp only [vsF,if_neg hq]
     rw [hz]
     have:¬ ((q:Int) == (p:Int))=true:=fun e=>by
      have e2:=beq_iff_eq.1 e
      obtain rfl:q=p:=by omega
      exact hq hp
     rw [if_neg this]
     simp
  rw [List.count_cons,List.map_cons,List.sum_cons,key _ hb]
  by_cases e:p=i
  ·subst e
   simp
   omega
  ·rw [if_neg e,if_neg (by simp;omega)]
   omega
theorem mkF_from (ps:List Int):∀ (ms:List Bool) (j:Nat),(mkF ms ps).getD j false=true→ms.getD j false=true∨∃ p∈ps,p.toNat=j:=by
 induction ps with
 | nil=>intro ms j h;exact Or.inl h
 | cons q ps ih =>
  intro ms j h
  rcases ih (ms.set q.toNat true) j h with h1 | ⟨p,hp,e⟩
  ·by_cases e:q.toNat=j
   ·exact Or.inr ⟨q,List.mem_cons_self ..,e⟩
   ·rw [List.getD_eq_getElem?_getD,List.getElem?_set,if_neg e,← List.getD_eq_getElem?_getD] at h1
    exact Or.inl h1
  ·exact Or.inr ⟨p,List.mem_cons_of_mem _ hp,e⟩
theorem reF_from (l:List S52) (hT:tmF l=true):∀ d (ms:List Bool) (j:Nat),d≤l.length→(reF l d ms).getD j false=true→ms.getD j false=true∨∃ i,i < d∧(reF l d ms).getD i false=true∧∃ p∈np (rd_T52 l (i:Int)),p.toNat=j:=by
 intro d
 induction d with
 | zero=>intro ms j _ h;exact Or.inl h
 | succ d ih =>
  intro ms j hd h
  unfold reF at h ⊢
  rcases ih _ j (by omega) h with h1 | ⟨i,hi,h1,h2⟩
  ·split at h1
   ·next hc =>
    rcases mkF_from _ _ _ h1 with h2|h2
    ·exact Or.inl h2
    ·right
     refine ⟨d,by omega,?_,h2⟩
     rw [if_pos hc]
     refine reF_keep l d _ _ (mkF_keep _ _ _ ?_)
     rw [rdOf_nat'] at hc
     exact hc
   ·exact Or.inl h1
  ·exact Or.inr ⟨i,by omega,h1,h2⟩
theorem mk_from (l:List S52) (hT:tmF l=true) (p:Nat) (hp:rdOf false (mkS l) (p:Int)=true) (hne:p≠l.length - 1):∃ j,p < j∧j < l.length∧rdOf false (mkS l) (j:Int)=true∧(p:Int)∈np (rd_T52 l (j:Int)):=by
 rw [rdOf_nat'] at hp
 rcases reF_from l hT l.length (ms0 l.length) p (Nat.le_refl _) hp with h | ⟨i,hi,h1,q,hq,e⟩
 ·exfalso
  unfold ms0 at h
  rw [List.getD_eq_getElem?_getD,List.getElem?_set,if_neg (by omega),List.getElem?_replicate] at h
  split at h <;> simp at h
 ·have hb:=tm_parts l hT i hi q hq
  have e2:(p:Int)=q:=by omega
  refine ⟨i,by omega,hi,by rw [rdOf_nat'];exact h1,by rw [e2];exact hq⟩
theorem ho_of (l:List S52) (j:Nat) (hj:j < l.length):rdOf false (hoS l) (j:Int)=true↔(qu (rd_T52 l (j:Int)).f0=true∨∃ p∈np (rd_T52 l (j:Int)),rdOf false (hoL l j) p=true):=by
 rw [hoL_get l j l.length hj,Bool.or_eq_true,List.any_eq_true]
theorem ho_up (l:List S52) (hT:tmF l=true) (j p:Nat) (hj:j < l.length) (hp:(p:Int)∈np (rd_T52 l (j:Int))) (h:rdOf false (hoS l) (p:Int)=true):rdOf false (hoS l) (j:Int)=true:=by
 have hb:=tm_parts l hT j hj _ hp
 exact (ho_of l j hj).2 (Or.inr ⟨_,hp,by rw [hoL_same l p j l.length (by omega) (by omega)];exact h⟩)
theorem cntU_sm (l:List S52) (M:List Bool) (p:Nat):∀ i,cntU l M i p=sm (fun j=>if rdOf false M (j:Int)=true then (np (rd_T52 l (j:Int))).count (p:Int) else 0) i:=by
 intro i
 induction i with
 | zero=>rfl
 | succ i ih=>simp only [cntU,sm,ih]
abbrev vsS (l:List S52):List Nat:=vsF l (hoS l) l.length (l.length - 1)
theorem vsS_mem {l:List S52} (hT:tmF l=true) {j:Nat} (h:j∈vsS l):j < l.length∧j≤l.length - 1∧rdOf false (hoS l) (j:Int)=true∧rdOf false (mkS l) (j:Int)=true:=by
 have hp:=tm_pos hT
 have:=vs_mem l hT l.length (l.length - 1) (by omega) (by omega) (mk_root l hp) j h
 exact ⟨by omega,this⟩
theorem vsS_root {l:List S52} (hT:tmF l=true) {j:Nat} (h:j∈vsS l):rdOf false (hoS l) ((l.length - 1:Nat):Int)=true:=by
 have hp:=tm_pos hT
 obtain ⟨d,hd⟩:∃ d,l.length=d + 1:=⟨l.length - 1,by omega⟩
 cases hc:rdOf false (hoS l) ((l.length - 1:Nat):Int) with
 | true=>rfl
 | false =>
  have:vsS l=[]:=by
   unfold vsS
   generalize l.length - 1=r at hc
   rw [hd]
   simp only [vsF,hc,Bool.false_eq_true,if_false]
  rw [this] at h
  cases h
theorem vsS_count {l:List S52} (hT:tmF l=true) {p:Nat} (h:p∈vsS l):(vsS l).count p=(if p=l.length - 1 then 1 else 0) + sm (fun j=>(vsS l).count j * (np (rd_T52 l (j:Int))).count (p:Int)) l.length:=by
 have hp:=tm_pos hT
 rw [← sm_count (fun j=>(np (rd_T52 l (j:Int))).count (p:Int)) l.length (vsS l) (fun j hj=>(vsS_mem hT hj).1)]
 exact vs_count l hT p (vsS_mem hT h).2.2.1 l.length (l.length - 1) (by omega) (by omega) (vsS_root hT h)
theorem np_far {l:List S52} (hT:tmF l=true) {j p:Nat} (hj:j < l.length) (h:j≤p):(np (rd_T52 l (j:Int))).count (p:Int)=0:=by
 rw [List.count_eq_zero]
 intro hm
 have:=tm_parts l hT j hj _ hm
 omega
theorem vs_one {l:List S52} (S:SnOk l):∀ p,(vsS l).count p≤1:=by
 have hT:=S.tm
 have main:∀ d p,l.length - 1≤p + d→(vsS l).count p≤1:=by
  intro d
  induction d with
  | zero =>
   intro p hp
   by_cases hV:p∈vsS l
   ·have hm:=vsS_mem hT hV
    obtain rfl:p=l.length - 1:=by omega
    rw [vsS_count hT hV,if_pos rfl,sm_zero _ (fun j hj=>by rw [np_far hT hj (by omega)];rfl)]
    exact Nat.le_refl _
   ·rw [List.count_eq_zero.2 hV]
    omega
  | succ d ih =>
   intro p hp
   by_cases hV:p∈vsS l
   ·have hm:=vsS_mem hT hV
    by_cases e:p=l.length - 1
    ·rw [vsS_count hT hV,if_pos e,sm_zero _ (fun j hj=>by rw [np_far hT hj (by omega)];rfl)]
     exact Nat.le_refl _
    ·rw [vsS_count hT hV,if_neg e,Nat.zero_add]
     refine Nat.le_trans (sm_le l.length (fun j hj=>?_)) (Nat.le_trans (Nat.le_of_eq (cntU_sm l (mkS l) p l.length).symm) (S.use p hm.1 hm.2.2.2 hm.2.2.1))
     by_cases hc:j≤p
     ·rw [np_far hT hj hc]
      exact Nat.zero_le _
     ·by_cases hjV:j∈vsS l
      ·rw [if_pos (vsS_mem hT hjV).2.2.2]
       have h1:=ih j (by omega)
       have:=Nat.mul_le_mul_right ((np (rd_T52 l (j:Int))).count (p:Int)) h1
       rw [Nat.one_mul] at this
       exact this
      ·rw [List.count_eq_zero.2 hjV,Nat.zero_mul]
       exact Nat.zero_le _
   ·rw [List.count_eq_zero.2 hV]
    omega
 exact fun p=>main l.length p (by omega)
theorem vs_nodup {l:List S52} (S:SnOk l):(vsS l).Nodup:=List.nodup_iff_count.2 (vs_one S)
theorem vs_all {l:List S52} (hT:tmF l=true):∀ d p,l.length - 1≤p + d→p < l.length→rdOf false (mkS l) (p:Int)=true→rdOf false (hoS l) (p:Int)=true→p∈vsS l:=by
 have root:rdOf false (hoS l) ((l.length - 1:Nat):Int)=true→l.length - 1∈vsS l:=fun h=>by
  have hp:=tm_pos hT
  obtain ⟨d,hd⟩:∃ d,l.length=d + 1:=⟨l.length - 1,by omega⟩
  unfold vsS
  generalize l.length - 1=r at h
  rw [hd]
  simp only [vsF,h,if_true]
  exact List.mem_cons_self ..
 intro d
 induction d with
 | zero =>
  intro p h1 h2 hm hh
  obtain rfl:p=l.length - 1:=by omega
  exact root hh
 | succ d ih =>
  intro p h1 h2 hm hh
  by_cases e:p=l.length - 1
  ·subst e
   exact root hh
  ·obtain ⟨j,hj1,hj2,hjm,hjp⟩:=mk_from l hT p hm e
   have hjh:=ho_up l hT j p hj2 hjp hh
   have hjV:=ih j (by omega) hj2 hjm hjh
   have hroot:=vsS_root hT hjV
   have hpos:=tm_pos hT
   have hc:=vs_count l hT p hh l.length (l.length - 1) (by omega) (by omega) hroot
   rw [if_neg e,Nat.zero_add,sm_count _ l.length (vsS l) (fun j hj=>(vsS_mem hT hj).1)] at hc
   have hg:=sm_ge (f:=fun j=>(vsS l).count j * (np (rd_T52 l (j:Int))).count (p:Int)) l.length j hj2
   have h3:0 < (vsS l).count j:=List.count_pos_iff.2 hjV
   have h4:0 < (np (rd_T52 l (j:Int))).count (p:Int):=List.count_pos_iff.2 hjp
   have h5:=Nat.mul_pos h3 h4
   exact List.count_pos_iff.1 (by rw [hc];omega)
abbrev qp (l:List S52) (j:Nat):Int × Int:=((rd_T52 l (j:Int)).f2,(rd_T52 l (j:Int)).f4)
abbrev qs (l:List S52) (V:List Nat):List Nat:=V.filter fun j=>qu (rd_T52 l (j:Int)).f0
theorem vs_len (l:List S52) (hT:tmF l=true) (d i:Nat) (hd:i < d) (hi:i < l.length) (hm:rdOf false (mkS l) (i:Int)=true) (hN:(vsF l (hoS l) d i).Nodup):(vsF l (hoS l) d i).length≤l.length:=by
 have h:=sm_count (fun _=>1) l.length (vsF l (hoS l) d i) (fun j hj=>by have:=vs_mem l hT d i hd hi hm j hj;omega)
 have h1:((vsF l (hoS l) d i).map fun _=>1).sum=(vsF l (hoS l) d i).length:=by
  generalize vsF l (hoS l) d i=V
  induction V with
  | nil=>rfl
  | cons a V ih=>rw [List.map_cons,List.sum_cons,List.length_cons,ih];omega
 have h2:=sm_le (f:=fun j=>(vsF l (hoS l) d i).count j * 1) (g:=fun _=>1) l.length (fun j _=>by have:=List.nodup_iff_count.1 hN j;omega)
 have h3:∀ n,sm (fun _=>1) n=n:=by
  intro n
  induction n with
  | zero=>rfl
  | succ n ih=>simp only [sm,ih]
 rw [h3] at h2
 omega
theorem walk_ok {l:List S52} (S:SnOk l):∀ d i,i < d→i < l.length→rdOf false (mkS l) (i:Int)=true→(vsF l (hoS l) d i).Nodup→∀ tn:Bool,∃ q,Ev (fun k=>spec_l05Walk.f k l (hoS l) (i:Int) tn) q∧q.map (fun x=>(x.f1,x.f2))=(qs l (vsF l (hoS l) d i)).map (qp l):=by
 have hT:=S.tm
 have hl8:=tm_len hT
 have hH:(hoS l).length=l.length:=hoL_length l l.length
 intro d
 induction d with
 | zero=>intro i h;omega
 | succ d ih =>
  intro i hd hi hm hN tn
  have g:(0≤(i:Int)∧(i:Int) < (l.length:Int))∧(i:Int) < ((hoS l).length:Int):=by omega
  have len:∀ (q:List S31) (V:List Nat),q.map (fun x=>(x.f1,x.f2))=(qs l V).map (qp l)→V.length≤l.length→q.length≤80:=fun q V e hV=>by
   have h1:=congrArg List.length e
   rw [List.length_map,List.length_map] at h1
   have:(qs l V).length≤V.length:=List.length_filter_le _ _
   omega
  cases hh:rdOf false (hoS l) (i:Int) with
  | false =>
   refine ⟨[],ev_succ ?_,?_⟩
   ·simp only [spec_l05Walk.f,if_pos g,hh,Bool.false_eq_true,if_false]
    exact ev_some _
   ·simp only [vsF,hh,Bool.false_eq_true,if_false]
    rfl
  | true =>
   have hv:vsF l (hoS l) (d + 1) i=i :: (np (rd_T52 l (i:Int))).flatMap (fun p=>vsF l (hoS l) d p.toNat):=by simp only [vsF,hh,if_true]
   rw [hv] at hN ⊢
   have hN2:=(List.nodup_cons.1 hN).2
   have hpp:=tm_parts l hT i hi
   have hmp:=mk_parts l hT i hi hm
   have hou:=ouB_ops (S.out i hi hm hh)
   by_cases h2:(rd_T52 l (i:Int)).f0=2
   ·have hnp:np (rd_T52 l (i:Int))=[(rd_T52 l (i:Int)).f3]:=by unfold np parts;rw [if_pos (Or.inl h2)]
    rw [hnp] at hpp hmp hN2 ⊢
    have hb:=hpp _ (List.mem_singleton.2 rfl)
    have hm3:=hmp _ (List.mem_singleton.2 rfl)
    obtain ⟨p,hp⟩:=Int.eq_ofNat_of_zero_le hb.1
    rw [hp] at hb hm3 hN2 ⊢
    simp only [List.flatMap_cons,List.flatMap_nil,List.append_nil,Int.toNat_natCast] at hN2 ⊢
    obtain ⟨q,e,hq⟩:=ih p (by omega) (by omega) hm3 hN2 (!tn)
    refine ⟨q,ev_succ ?_,?_⟩
    ·simp only [spec_l05Walk.f,if_pos g,hh,if_true,if_pos h2,hp]
     exact e
    ·rw [hq]
     have:qu (rd_T52 l (i:Int)).f0=false:=by rw [h2];rfl
     simp only [qs,List.filter_cons,this,Bool.false_eq_true,if_false]
   by_cases hQ:qu (rd_T52 l (i:Int)).f0=true
   ·have hQ2:=(qu_iff _).1 hQ
    have hnp:=(tm_qu l hT i hi hQ).2.2.1
    rw [hnp] at hpp hmp hN2 ⊢
    have hb:=hpp _ (List.mem_singleton.2 rfl)
    have hm3:=hmp _ (List.mem_singleton.2 rfl)
    obtain ⟨p,hp⟩:=Int.eq_ofNat_of_zero_le hb.1
    rw [hp] at hb hm3 hN2 ⊢
    simp only [List.flatMap_cons,List.flatMap_nil,List.append_nil,Int.toNat_natCast] at hN2 ⊢
    obtain ⟨q,e,hq⟩:=ih p (by omega) (by omega) hm3 hN2 tn
    have hlq:=len q _ hq (vs_len l hT d p (by omega) (by omega) hm3 hN2)
    refine ⟨[⟨((rd_T52 l (i:Int)).f0 == 19) != tn,(rd_T52 l (i:Int)).f2,(rd_T52 l (i:Int)).f4⟩] ++ q,ev_succ ?_,?_⟩
    ·simp only [spec_l05Walk.f,if_pos g,hh,if_true,if_neg h2,if_pos hQ2,hp]
     refine ev_bind e ?_
     simp only [if_pos (show q.length < 5864062014804 by omega)]
     exact ev_some _
    ·simp only [qs,List.filter_cons,hQ,if_true,List.map_cons,List.map_append,List.map_nil,hq]
     rfl
   ·have h34:(rd_T52 l (i:Int)).f0=3∨(rd_T52 l (i:Int)).f0=4:=by
     rcases hou with h|h|h|h
     ·exact absurd h h2
     ·exact Or.inl h
     ·exact Or.inr h
     ·exact absurd h hQ
    have hnp:np (rd_T52 l (i:Int))=[(rd_T52 l (i:Int)).f3,(rd_T52 l (i:Int)).f4]:=by
     rcases np_cases (rd_T52 l (i:Int)) with ⟨e,c⟩ | ⟨e,c⟩ | ⟨e,c⟩ | ⟨e,c1,c2,c3⟩
     ·rcases c with c|c|c
      ·omega
      ·omega
      ·exact absurd c hQ
     ·exact e
     ·omega
     ·omega
    rw [hnp] at hpp hmp hN2 ⊢
    have hb:=hpp _ (List.mem_cons_self ..)
    have hm3:=hmp _ (List.mem_cons_self ..)
    have hb4:=hpp (rd_T52 l (i:Int)).f4 (by simp)
    have hm4:=hmp (rd_T52 l (i:Int)).f4 (by simp)
    obtain ⟨p,hp⟩:=Int.eq_ofNat_of_zero_le hb.1
    obtain ⟨p',hp'⟩:=Int.eq_ofNat_of_zero_le hb4.1
    rw [hp] at hb hm3 hN2 ⊢
    rw [hp'] at hb4 hm4 hN2 ⊢
    simp only [List.flatMap_cons,List.flatMap_nil,List.append_nil,Int.toNat_natCast] at hN2 ⊢
    have hNA:=List.nodup_append.1 hN2
    obtain ⟨q,e,hq⟩:=ih p (by omega) (by omega) hm3 hNA.1 tn
    obtain ⟨q',e',hq'⟩:=ih p' (by omega) (by omega) hm4 hNA.2.1 tn
    have hlq:=len q _ hq (vs_len l hT d p (by omega) (by omega) hm3 hNA.1)
    have hlq':=len q' _ hq' (vs_len l hT d p' (by omega) (by omega) hm4 hNA.2.1)
    refine ⟨q ++ q',ev_succ ?_,?_⟩
    ·have hn:¬ ((rd_T52 l (i:Int)).f0=19∨(rd_T52 l (i:Int)).f0=20):=by omega
     simp only [spec_l05Walk.f,if_pos g,hh,if_true,if_neg h2,if_neg hn,hp,hp']
     refine ev_bind e (ev_bind e' ?_)
     simp only [if_pos (show q.length + q'.length < 5864062014805 by omega)]
     exact ev_some _
    ·simp only [qs,List.filter_cons,hQ,Bool.false_eq_true,if_false,List.filter_append,List.map_append,hq,hq']
structure QsOk (l:List S52) (q:List S31):Prop where
 map:q.map (fun x=>(x.f1,x.f2))=(qs l (vsS l)).map (qp l)
 nd:(qs l (vsS l)).Nodup
 mem:∀ j,j∈qs l (vsS l)↔j < l.length∧rQ l (mkS l) j
theorem qs_ok {l:List S52} (S:SnOk l):∃ q,Ev (fun k=>spec_l05Walk.f k l (hoS l) ((l.length:Int) - 1) false) q∧QsOk l q:=by
 have hT:=S.tm
 have hp:=tm_pos hT
 obtain ⟨q,e,h⟩:=walk_ok S l.length (l.length - 1) (by omega) (by omega) (mk_root l hp) (vs_nodup S) false
 refine ⟨q,by rw [show ((l.length:Int) - 1)=((l.length - 1:Nat):Int) from by omega];exact e,h,List.Nodup.sublist List.filter_sublist (vs_nodup S),fun j=>?_⟩
 rw [List.mem_filter]
 constructor
 ·rintro ⟨h1,h2⟩
  have:=vsS_mem hT h1
  exact ⟨this.1,this.2.2.2,h2⟩
 ·rintro ⟨h1,h2,h3⟩
  exact ⟨vs_all hT l.length j (by omega) h1 h2 ((ho_of l j h1).2 (Or.inl h3)),h3⟩
theorem bsr {α:Type} (x:Option α):(x.bind fun t=>some t)=x:=by cases x <;> rfl
theorem wm (w:Nat) (h8:w≤8) (v:Int) (h0:0≤v) (h1:v < (2:Int) ^ w):inW (w:Int) v:=⟨h0,by rw [Int.toNat_natCast];exact h1⟩
theorem w_bit (W:Int) (h1:1≤W) (t:Bool) {v:Int} (h:impl_bit.f t=some v):inW W v:=by
 refine inW_one W h1 v ?_
 cases t
 ·exact Or.inl (Option.some.inj h).symm
 ·exact Or.inr (Option.some.inj h).symm
theorem w_two (n:Nat) (h1:1≤n) (h8:n≤8) (a b:Int) (I:Option Int) (v:Int) (hI:0≤a→a < (2:Int) ^ n→0≤b→b < (2:Int) ^ n→I=some v→inW (n:Int) v) (h:((impl_two.f (n:Int) a b).bind fun t=>if t=true then I else some 0)=some v):inW (n:Int) v:=by
 rw [apTwoI n h1 h8] at h
 cases ho:(apOk n a && apOk n b) with
 | false =>
  rw [ho] at h
  obtain rfl:=Option.some.inj h
  exact inW_zero _
 | true =>
  rw [ho] at h
  simp only [Bool.and_eq_true,apOk,decide_eq_true_eq] at ho
  exact hI ho.1.1 ho.1.2 ho.2.1 ho.2.2 h
theorem w_cut (n:Nat) (h8:n≤8) (x v:Int) (h:((impl_cut.f (n:Int) x).bind fun t=>some t)=some v):inW (n:Int) v:=by
 rw [apCut n h8] at h
 obtain rfl:=Option.some.inj h
 exact inW_mod n x
theorem w_binary (o:Int) (n:Nat) (h1:1≤n) (h8:n≤8) (a b v:Int) (ha:inW (n:Int) a) (hb:inW (n:Int) b) (h:impl_binary.f o (n:Int) a b=some v):inW (n:Int) v:=by
 have hp:=apPow n h8
 have hm:=apMask n h8
 unfold impl_binary.f at h
 split at h
 ·obtain rfl:=Option.some.inj h
  exact (bits_w n h8 a b ha hb).1
 split at h
 ·obtain rfl:=Option.some.inj h
  exact (bits_w n h8 a b ha hb).2.1
 split at h
 ·obtain rfl:=Option.some.inj h
  exact (bits_w n h8 a b ha hb).2.2
 split at h
 ·rw [bsr] at h
  exact w_two n h1 h8 a b _ v (fun _ _ _ _ h=>w_cut n h8 _ v h) h
 split at h
 ·rw [bsr] at h
  exact w_two n h1 h8 a b _ v (fun _ _ _ _ h=>w_cut n h8 _ v h) h
 split at h
 ·rw [bsr] at h
  exact w_two n h1 h8 a b _ v (fun _ _ _ _ h=>w_cut n h8 _ v h) h
 split at h
 ·rw [bsr] at h
  refine w_two n h1 h8 a b _ v (fun a0 a1 b0 b1 h=>?_) h
  rw [apU n h8,if_pos (show (0:Int)≤(n:Int) by omega),hm] at h
  split at h
  ·obtain rfl:=Option.some.inj h
   exact wm n h8 _ (by omega) (by omega)
  ·obtain rfl:=Option.some.inj h
   have h2:Int.tdiv a b≤a:=Int.tdiv_le_self _ a0
   have h3:0≤Int.tdiv a b:=Int.tdiv_nonneg a0 b0
   rw [show wrap64 (Int.tdiv a b)=Int.tdiv a b from by unfold wrap64;omega]
   exact wm n h8 _ h3 (by omega)
 split at h
 ·rw [bsr] at h
  refine w_two n h1 h8 a b _ v (fun a0 a1 b0 b1 h=>?_) h
  split at h
  ·obtain rfl:=Option.some.inj h
   exact wm n h8 _ a0 a1
  ·obtain rfl:=Option.some.inj h
   rw [Int.tmod_eq_emod_of_nonneg a0]
   have h2:0≤a % b:=Int.emod_nonneg _ (by assumption)
   have h3:a % b < b:=Int.emod_lt_of_pos _ (by omega)
   exact wm n h8 _ h2 (by omega)
 split at h
 ·rw [bsr] at h
  refine w_two n h1 h8 a b _ v (fun a0 a1 b0 b1 h=>?_) h
  split at h
  ·obtain rfl:=Option.some.inj h
   exact inW_zero _
  split at h
  ·exact w_cut n h8 _ v h
  ·cases h
 ·rw [bsr] at h
  refine w_two n h1 h8 a b _ v (fun a0 a1 b0 b1 h=>?_) h
  split at h
  ·obtain rfl:=Option.some.inj h
   exact inW_zero _
  ·obtain ⟨j,rfl⟩:=Int.eq_ofNat_of_zero_le b0
   obtain ⟨x,rfl⟩:=Int.eq_ofNat_of_zero_le a0
   have hj:j≤8:=by omega
   rw [apU j hj,if_pos (by omega),shr_nat x j (by omega)] at h
   obtain rfl:=Option.some.inj h
   have hle:x / 2 ^ j≤x:=Nat.div_le_self _ _
   generalize x / 2 ^ j=z at hle
   exact wm n h8 _ (by omega) (by omega)
theorem w_flip (n:Nat) (h1:1≤n) (h8:n≤8) (a v:Int) (h:impl_Flip.f (n:Int) a=some v):inW (n:Int) v:=by
 have hp:=apPow n h8
 have hm:=apMask n h8
 unfold impl_Flip.f at h
 rw [apWordI n h1 h8,apU n h8,if_pos (show (0:Int)≤(n:Int) by omega),hm] at h
 cases ho:apOk n a with
 | false =>
  rw [ho] at h
  obtain rfl:=Option.some.inj h
  exact inW_zero _
 | true =>
  rw [ho] at h
  simp only [apOk,decide_eq_true_eq] at ho
  obtain rfl:=Option.some.inj h
  rw [show wrap64 ((2:Int) ^ n - 1 - a)=(2:Int) ^ n - 1 - a from by unfold wrap64;omega]
  exact wm n h8 _ (by omega) (by omega)
theorem w_slice (u:Int) (n:Nat) (h8:n≤8) (a low v:Int) (h:impl_Slice.f u a low (n:Int)=some v):inW (n:Int) v:=by
 unfold impl_Slice.f at h
 obtain ⟨t,_,h⟩:=Option.bind_eq_some_iff.1 h
 split at h
 ·obtain ⟨t,_,h⟩:=Option.bind_eq_some_iff.1 h
  split at h
  ·obtain ⟨t,_,h⟩:=Option.bind_eq_some_iff.1 h
   split at h
   ·split at h
    ·exact w_cut n h8 _ v h
    ·cases h
   ·obtain rfl:=Option.some.inj h
    exact inW_zero _
  ·obtain rfl:=Option.some.inj h
   exact inW_zero _
 ·obtain rfl:=Option.some.inj h
  exact inW_zero _
theorem w_less (W w a b v:Int) (h1:1≤W) (h:impl_Less.f w a b=some v):inW W v:=by
 unfold impl_Less.f at h
 obtain ⟨t,_,h⟩:=Option.bind_eq_some_iff.1 h
 split at h
 ·rw [bsr] at h
  exact w_bit W h1 _ h
 ·rw [bsr] at h
  exact w_bit W h1 _ h
theorem w_lessSigned (W w a b v:Int) (h1:1≤W) (h:impl_LessSigned.f w a b=some v):inW W v:=by
 unfold impl_LessSigned.f at h
 obtain ⟨t,_,h⟩:=Option.bind_eq_some_iff.1 h
 split at h
 ·obtain ⟨x,_,h⟩:=Option.bind_eq_some_iff.1 h
  obtain ⟨y,_,h⟩:=Option.bind_eq_some_iff.1 h
  rw [bsr] at h
  exact w_bit W h1 _ h
 ·rw [bsr] at h
  exact w_bit W h1 _ h
theorem apV_in (o W K A B C w a b c x0 x1 x2:Int) (hK : -9223372036854775808≤K∧K≤9223372036854775807) (hW:1≤W∧W≤8) (ho:0≤o∧o≤18∧o≠1) (hop:opF o W K B x0 x1 x2=true)
  (hj:o=16→w=x0∧(1≤x0∧x0≤8)∧(1≤x1∧x1≤8)) (ha:inW x0 a) (hb:inW x1 b) (hc:inW x2 c):inW W (apV o W K A B C w a b c):=by
 obtain ⟨K0,e⟩:=(apV_ev o W K A B C w a b c hK).1
 have h:=e (K0 + 3) (by omega)
 clear e
 generalize apV o W K A B C w a b c=v at h ⊢
 dsimp only at h
 rw [apI] at h
 cases hg:apG W w a b c with
 | false =>
  rw [hg] at h
  simp only [impl_Apply.j0,Bool.not_false,if_true] at h
  obtain rfl:=Option.some.inj h
  exact inW_zero _
 | true =>
  rw [hg] at h
  simp only [apG,Bool.and_eq_true,decide_eq_true_eq] at hg
  obtain ⟨n,rfl⟩:=Int.eq_ofNat_of_zero_le (show 0≤W by omega)
  have n1:1≤n:=by omega
  have n8:n≤8:=by omega
  simp only [impl_Apply.j0,Bool.not_true,Bool.false_eq_true,if_false,apWithin,Option.bind_some,bsr] at h
  unfold opF at hop
  by_cases h0:o=0
  ·rw [if_pos h0] at h hop
   obtain rfl:=Option.some.inj h
   rw [Int.toNat_natCast] at hop
   have:=of_decide_eq_true hop
   exact wm n n8 _ this.1 this.2
  rw [if_neg h0] at h hop
  rw [if_neg ho.2.2] at hop
  by_cases h2:o=2
  ·rw [if_pos h2] at h
   exact w_flip n n1 n8 a v h
  rw [if_neg h2] at h hop
  by_cases h3:3≤o∧o≤12
  ·rw [if_pos (decide_eq_true h3)] at h
   rw [if_pos h3,Bool.and_eq_true] at hop
   have e0:=beq_iff_eq.1 hop.1
   have e1:=beq_iff_eq.1 hop.2
   rw [e0] at ha
   rw [e1] at hb
   exact w_binary o n n1 n8 a b v ha hb h
  rw [if_neg (by simpa using h3)] at h
  rw [if_neg h3] at hop
  by_cases h13:o=13
  ·rw [if_pos h13] at h
   exact w_bit _ hW.1 _ h
  rw [if_neg h13] at h
  by_cases h14:o=14
  ·rw [if_pos h14] at h
   exact w_less _ _ _ _ _ hW.1 h
  rw [if_neg h14] at h
  by_cases h15:o=15
  ·rw [if_pos h15] at h
   exact w_lessSigned _ _ _ _ _ hW.1 h
  rw [if_neg h15] at h
  rw [if_neg (by omega)] at hop
  by_cases h16:o=16
  ·obtain ⟨rfl,hx0,hx1⟩:=hj h16
   rw [if_pos h16] at hop
   have hs:=beq_iff_eq.1 hop
   obtain ⟨u,rfl⟩:=Int.eq_ofNat_of_zero_le (show 0≤w by omega)
   obtain ⟨z,rfl⟩:=Int.eq_ofNat_of_zero_le (show 0≤x1 by omega)
   have hnz:n=u + z:=by unfold wrap64 at hs;omega
   subst hnz
   have hz8:z≤8:=by omega
   rw [if_pos h16,decide_eq_false (show ¬ ((u + z:Nat):Int) < (u:Int) by omega)] at h
   simp only [impl_Apply.j1,Bool.false_eq_true,if_false,if_pos h16] at h
   rw [show wrap64 (((u + z:Nat):Int) - (u:Int))=(z:Int) from by unfold wrap64;omega,apU z hz8,if_pos (by omega)] at h
   obtain ⟨x,rfl⟩:=Int.eq_ofNat_of_zero_le ha.1
   obtain ⟨y,rfl⟩:=Int.eq_ofNat_of_zero_le hb.1
   have hxl:x < 2 ^ u:=by have:=ha.2;rw [Int.toNat_natCast] at this;exact_mod_cast this
   have hyl:y < 2 ^ z:=by have:=hb.2;rw [Int.toNat_natCast] at this;exact_mod_cast this
   have hz2:2 ^ z≤256:=Nat.le_trans (Nat.pow_le_pow_right (by decide) hz8) (by decide)
   have hu2:2 ^ u≤256:=Nat.le_trans (Nat.pow_le_pow_right (by decide) (show u≤8 by omega)) (by decide)
   have hm1:x * 2 ^ z + y < 2 ^ (u + z):=by
    rw [Nat.pow_add]
    have:=Nat.mul_le_mul_right (2 ^ z) (show x + 1≤2 ^ u from hxl)
    rw [Nat.add_mul,Nat.one_mul] at this
    omega
   have hm2:x * 2 ^ z≤256 * 256:=Nat.mul_le_mul (by omega) hz2
   rw [shl_nat x z (by omega) (by omega)] at h
   obtain rfl:=Option.some.inj h
   rw [show wrap64 (((x * 2 ^ z:Nat):Int) + (y:Int))=((x * 2 ^ z + y:Nat):Int) from by
    generalize x * 2 ^ z=m at hm2
    unfold wrap64
    omega]
   exact wm _ n8 _ (Int.natCast_nonneg _) (by exact_mod_cast hm1)
  rw [if_neg h16] at h hop
  simp only [impl_Apply.j1,Bool.false_eq_true,if_false,if_neg h16,bsr] at h
  by_cases h17:o=17
  ·rw [if_pos h17] at h
   exact w_slice _ n n8 _ _ _ h
  rw [if_neg h17] at h hop
  have h18:o=18:=by omega
  rw [if_pos h18] at h hop
  simp only [Bool.and_eq_true,beq_iff_eq] at hop
  by_cases hx:a=1
  ·rw [beq_iff_eq.2 hx] at h
   simp only [impl_Apply.j2,if_true] at h
   obtain rfl:=Option.some.inj h
   rw [← hop.2.1]
   exact hb
  ·rw [beq_eq_false_iff_ne.2 hx] at h
   simp only [impl_Apply.j2,Bool.false_eq_true,if_false,if_pos h18] at h
   obtain rfl:=Option.some.inj h
   rw [← hop.2.2]
   exact hc
theorem nd_at (l:List S52) (hT:tmF l=true) (i:Nat) (hi:i < l.length):ndF (l.take i) (rd_T52 l (i:Int))=true:=by
 unfold tmF at hT
 rw [Bool.and_eq_true] at hT
 exact tmA_at l l.length 0 hT.2 i (by omega) (by omega)
theorem rdN_take (l:List S52) (i:Nat) (p:Int) (h0:0≤p) (h1:p < (i:Int)):rd_T52 (l.take i) p=rd_T52 l p:=by
 obtain ⟨j,rfl⟩:=Int.eq_ofNat_of_zero_le h0
 rw [rdN_nat,rdN_nat,List.getD_eq_getElem?_getD,List.getD_eq_getElem?_getD,List.getElem?_take_of_lt (by omega)]
theorem nd_w (l:List S52) (hT:tmF l=true) (i:Nat) (hi:i < l.length):1≤(rd_T52 l (i:Int)).f1∧(rd_T52 l (i:Int)).f1≤8:=by
 have h:=nd_at l hT i hi
 unfold ndF at h
 simp only [Bool.and_eq_true,decide_eq_true_eq] at h
 exact h.1
theorem vl_in (l:List S52) (hT:tmF l=true) (ws xs:List Int) (hx:xs.length=8) (ms:List Bool) (hp:∀ i:Nat,i < l.length→ms.getD i false=true→∀ p∈np (rd_T52 l (i:Int)),ms.getD p.toNat false=true)
  (hq:∀ j:Nat,j < l.length→qu (rd_T52 l (j:Int)).f0=false) (hK:∀ j:Nat,j < l.length → -9223372036854775808≤(rd_T52 l (j:Int)).f2∧(rd_T52 l (j:Int)).f2≤9223372036854775807)
  (hv:∀ j:Nat,j < l.length→ms.getD j false=true→(rd_T52 l (j:Int)).f0=1→rd ws (rd_T52 l (j:Int)).f2=(rd_T52 l (j:Int)).f1) (he:envOk ws xs) :
  ∀ i:Nat,i < l.length→ms.getD i false=true→inW (rd_T52 l (i:Int)).f1 ((vlist l xs l.length).getD i 0):=by
 intro i
 induction i using Nat.strongRecOn with|ind i ih =>
 intro hi hm
 rw [vlist_get l xs i l.length hi]
 unfold oneF
 by_cases h1:(rd_T52 l (i:Int)).f0=1
 ·rw [if_pos h1,← hv i hi hm h1]
  have hk:=tm_var l hT i hi h1
  obtain ⟨K,hK2⟩:=Int.eq_ofNat_of_zero_le hk.1
  rw [hK2] at hk ⊢
  exact he K (by omega)
 ·rw [if_neg h1]
  have hnd:=nd_at l hT i hi
  unfold ndF at hnd
  simp only [Bool.and_eq_true,decide_eq_true_eq] at hnd
  obtain ⟨hW,ho,_,hpo,hop⟩:=hnd
  have hpp:=tm_parts l hT i hi
  have hqi:=hq i hi
  have hq2:(rd_T52 l (i:Int)).f0≠19∧(rd_T52 l (i:Int)).f0≠20:=by
   unfold qu at hqi
   have:=of_decide_eq_false hqi
   omega
  have part:∀ q:Nat,inW (w3 (l.take i) (np (rd_T52 l (i:Int))) q) (v3 (vlist l xs i) (np (rd_T52 l (i:Int))) q):=fun q=>by
   unfold w3 v3
   by_cases h:q < (np (rd_T52 l (i:Int))).length
   ·rw [if_pos h,if_pos h]
    have hmem:rd (np (rd_T52 l (i:Int))) (q:Int)∈np (rd_T52 l (i:Int)):=by rw [rd_nat,getD_lt _ q _ h];exact List.getElem_mem h
    have h2:=hpp _ hmem
    have h3:=hp i hi hm _ hmem
    rw [rdN_take l i _ h2.1 (by omega)]
    obtain ⟨j,hj⟩:=Int.eq_ofNat_of_zero_le h2.1
    rw [hj] at h2 h3 ⊢
    rw [rd_nat,← vlist_same l xs j l.length i (by omega) (by omega)]
    exact ih j (by omega) (by omega) (by simpa using h3)
   ·rw [if_neg h,if_neg h]
    exact inW_zero _
  refine apV_in _ _ _ _ _ _ _ _ _ _ _ _ _ (hK i hi) hW ⟨ho.1,by omega,h1⟩ hop (fun h16=>?_) (part 0) (part 1) (part 2)
  have hnp:np (rd_T52 l (i:Int))=[(rd_T52 l (i:Int)).f3,(rd_T52 l (i:Int)).f4]:=by
   unfold np parts
   rw [if_neg (by rw [hqi,h16];decide),if_pos (by omega)]
  rw [hnp] at hpp ⊢
  have p0:=hpp (rd_T52 l (i:Int)).f3 (by simp)
  have p1:=hpp (rd_T52 l (i:Int)).f4 (by simp)
  have e0:w3 (l.take i) [(rd_T52 l (i:Int)).f3,(rd_T52 l (i:Int)).f4] 0=(rd_T52 l (rd_T52 l (i:Int)).f3).f1:=by
   simp [w3,rd]
   rw [rdN_take l i _ p0.1 (by omega)]
  have e1:w3 (l.take i) [(rd_T52 l (i:Int)).f3,(rd_T52 l (i:Int)).f4] 1=(rd_T52 l (rd_T52 l (i:Int)).f4).f1:=by
   simp [w3,rd]
   rw [rdN_take l i _ p1.1 (by omega)]
  rw [e0,e1]
  refine ⟨by simp [wd1,rd],?_,?_⟩
  ·obtain ⟨j,hj⟩:=Int.eq_ofNat_of_zero_le p0.1
   rw [hj] at p0 ⊢
   exact nd_w l hT j (by omega)
  ·obtain ⟨j,hj⟩:=Int.eq_ofNat_of_zero_le p1.1
   rw [hj] at p1 ⊢
   exact nd_w l hT j (by omega)
structure FrOk (q:List S31) (l:List S52) (ws:List Int):Prop where
 vars:∀ j:Nat,j < q.length→(0≤(rd_T31 q (j:Int)).f1∧(rd_T31 q (j:Int)).f1≤7)∧(1≤(rd_T31 q (j:Int)).f2∧(rd_T31 q (j:Int)).f2≤8)∧rd ws (rd_T31 q (j:Int)).f1=(rd_T31 q (j:Int)).f2
 fw:fwF q q.length 0 (List.replicate 8 0)=some ws
 term:tmF l=true
 root:(rd_T52 l ((l.length:Int) - 1)).f1=1
 fits:fnF l (reF l l.length (ms0 l.length)) ws l.length 0=true
theorem fr_ok {q:List S31} {l:List S52} (h:frF q l=true):∃ ws,FrOk q l ws:=by
 unfold frF at h
 cases hw:fwF q q.length 0 (List.replicate 8 0) with
 | none =>
  rw [hw] at h
  cases h
 | some ws =>
  rw [hw] at h
  simp only [Bool.and_eq_true,beq_iff_eq] at h
  exact ⟨ws,fun j hj=>fwF_at q q.length 0 _ ws rfl hw j (by omega) (by omega),hw,h.1,h.2.1,h.2.2⟩
theorem FrOk.plain {q:List S31} {l:List S52} {ws:List Int} (h:FrOk q l ws):∀ j:Nat,j < l.length→qu (rd_T52 l (j:Int)).f0=false:=fun j hj=>fn_plain l _ ws l.length 0 h.fits j (by omega) (by omega)
theorem root_marked (n:Nat) (h:1≤n):(ms0 n).getD (n - 1) false=true:=by
 unfold ms0
 rw [List.getD_eq_getElem?_getD,List.getElem?_set,if_pos rfl,if_pos (by rw [List.length_replicate];omega)]
 rfl
theorem FrOk.bit {q:List S31} {l:List S52} {ws:List Int} (h:FrOk q l ws) (hK:∀ j:Nat,j < l.length → -9223372036854775808≤(rd_T52 l (j:Int)).f2∧(rd_T52 l (j:Int)).f2≤9223372036854775807) (xs:List Int) (hx:xs.length=8) (he:envOk ws xs) :
  rd (vlist l xs l.length) ((l.length:Int) - 1)=0∨rd (vlist l xs l.length) ((l.length:Int) - 1)=1:=by
 have hp:=tm_pos h.term
 have hl:(ms0 l.length).length=l.length:=ms0_length _
 have e:((l.length:Int) - 1)=((l.length - 1:Nat):Int):=by omega
 have hv:=vl_in l h.term ws xs hx (reF l l.length (ms0 l.length)) (fun i hi hm=>reF_parts l h.term l.length _ i hi (Nat.le_refl _) hl hm) h.plain hK
  (fun j hj hm ho=>fnF_at l _ ws l.length 0 h.fits j (by omega) (by omega) hm ho) he (l.length - 1) (by omega) (reF_keep l l.length _ _ (root_marked _ hp))
 have hr:=h.root
 rw [e] at hr ⊢
 rw [hr] at hv
 rw [rd_nat]
 unfold inW at hv
 have h2:(2:Int) ^ (1:Int).toNat=2:=by decide
 rw [h2] at hv
 omega
theorem FrOk.rootBit {q:List S31} {l:List S52} {ws:List Int} (h:FrOk q l ws) (hK:∀ j:Nat,j < l.length → -9223372036854775808≤(rd_T52 l (j:Int)).f2∧(rd_T52 l (j:Int)).f2≤9223372036854775807) (n t:Nat):rootF q l n t=0∨rootF q l n t=1 :=
 h.bit hK _ (xsF_length q n (t + 1)) (xsF_ok q ws n h.vars (t + 1))
noncomputable def tabF (q:List S31) (l:List S52):Int × ByteArray × Bool:=if frF q l=true∧swF q q.length 0≤12 then (swF q q.length 0,strOfNums (sgF q l (swF q q.length 0).toNat),true) else (0,⟨#[]⟩,false)
theorem fr_w {q:List S31} {l:List S52} {ws:List Int} (h:FrOk q l ws):∀ j:Nat,j < q.length→1≤(rd_T31 q (j:Int)).f2∧(rd_T31 q (j:Int)).f2≤8:=fun j hj=>(h.vars j hj).2.1
theorem fr_sum {q:List S31} {l:List S52} {ws:List Int} (h:FrOk q l ws):0≤swF q q.length 0:=sw_pos q (fr_w h) q.length 0 (by omega)
theorem bits_sum (q:List S31) (hq:q.length≤1048576) (hw:∀ j:Nat,j < q.length→1≤(rd_T31 q (j:Int)).f2∧(rd_T31 q (j:Int)).f2≤8):Ev (fun k=>spec_l05Bits.f k q) (swF q q.length 0):=by
 have main:∀ d i,i + d=q.length→∀ s:Int,0≤s→s≤8 * (i:Int)→Ev (fun k=>spec_l05Bits.l0 k q s (i:Int)) (s + swF q d i):=by
  intro d
  induction d with
  | zero =>
   intro i hi s h0 h1
   refine ev_succ ?_
   simp only [spec_l05Bits.l0,if_neg (show ¬ (i:Int) < (q.length:Int) by omega),swF,Int.add_zero]
   exact ev_some _
  | succ d ih =>
   intro i hi s h0 h1
   have hwi:=hw i (by omega)
   have e:=ih (i + 1) (by omega) (s + (rd_T31 q (i:Int)).f2) (by omega) (by push_cast;omega)
   refine ev_succ ?_
   simp only [spec_l05Bits.l0,if_pos (show (i:Int) < (q.length:Int) by omega),if_pos (show 0≤(i:Int) by omega),apIn,decide_eq_true hwi,Option.bind_some,if_true,w64s i (show i < 4611686018427387904 by omega),
    w64 (show -9223372036854775808≤s + (rd_T31 q (i:Int)).f2 by omega) (show s + (rd_T31 q (i:Int)).f2≤9223372036854775807 by omega),swF]
   rw [← Int.add_assoc]
   exact e
 have:=main q.length 0 (by omega) 0 (by omega) (by omega)
 rw [Int.zero_add] at this
 exact this
theorem tableI (q:List S31) (l:List S52) (hq:q.length≤1048576) (hl:l.length≤1048576) (hK:∀ j:Nat,j < l.length → -9223372036854775808≤(rd_T52 l (j:Int)).f2∧(rd_T52 l (j:Int)).f2≤9223372036854775807):Ev (fun k=>impl_TableOf.f k q l) (tabF q l):=by
 obtain ⟨v,v0,e1,e2,hv⟩:=bits_ev q hq
 unfold impl_TableOf.f
 refine ev_bind (f:=fun k n=>if n < 0 then some (0,(⟨#[]⟩:ByteArray),false) else (impl_FrontOk.f k q l).bind fun t=>if t=true then (if 0 < l.length∧l.length≤35184372088832 then (if 0≤IntKind.u64.wrap n then (if 0≤(wrap64 (2 ^ min (IntKind.u64.wrap n).toNat 64))∧(wrap64 (2 ^ min (IntKind.u64.wrap n).toNat 64)).toNat≤281474976710656 then (taO q l n k 0 (List.replicate (wrap64 (2 ^ min (IntKind.u64.wrap n).toNat 64)).toNat 0) (List.replicate 8 0)).bind fun vals=>some (n,strOfNums vals,true) else none) else none) else none) else some (0,(⟨#[]⟩:ByteArray),false)) e2 ?_
 unfold tabF
 by_cases h12:v > 12
 ·simp only [if_pos h12,if_pos (show (-1:Int) < 0 by decide)]
  rw [if_neg]
  ·exact ev_some _
  ·rintro ⟨hf,h⟩
   obtain ⟨ws,ok⟩:=fr_ok hf
   have hsum:=ev_one e1 (bits_sum q hq (fr_w ok))
   omega
 ·simp only [if_neg h12,if_neg (show ¬ v < 0 by omega)]
  refine ev_bind (f:=fun k t=>if t=true then (if 0 < l.length∧l.length≤35184372088832 then (if 0≤IntKind.u64.wrap v then (if 0≤(wrap64 (2 ^ min (IntKind.u64.wrap v).toNat 64))∧(wrap64 (2 ^ min (IntKind.u64.wrap v).toNat 64)).toNat≤281474976710656 then (taO q l v k 0 (List.replicate (wrap64 (2 ^ min (IntKind.u64.wrap v).toNat 64)).toNat 0) (List.replicate 8 0)).bind fun vals=>some (v,strOfNums vals,true) else none) else none) else none) else some (0,(⟨#[]⟩:ByteArray),false)) (frontI q l hq hl) ?_
  cases hf:frF q l with
  | false =>
   simp only [Bool.false_eq_true,if_false,false_and]
   exact ev_some _
  | true =>
   obtain ⟨ws,ok⟩:=fr_ok hf
   have hsum:=ev_one e1 (bits_sum q hq (fr_w ok))
   have hpos:=tm_pos ok.term
   obtain ⟨n,rfl⟩:=Int.eq_ofNat_of_zero_le v0
   have hn12:n≤12:=by omega
   have hN:2 ^ n≤4096:=Nat.le_trans (Nat.pow_le_pow_right (by decide) hn12) (by decide)
   have hwp:wrap64 (2 ^ min n 64)=((2 ^ n:Nat):Int):=by
    rw [Nat.min_eq_left (by omega),show (2:Int) ^ n=((2 ^ n:Nat):Int) from by norm_cast]
    generalize 2 ^ n=z at hN
    unfold wrap64
    omega
   simp only [if_true,true_and]
   rw [← hsum,if_pos (show (n:Int)≤12 by omega),Int.toNat_natCast,u64_of (by omega) (by omega),Int.toNat_natCast,hwp]
   simp only [if_pos (show 0 < l.length∧l.length≤35184372088832 by omega),if_pos (show (0:Int)≤(n:Int) by omega),Int.toNat_natCast,if_pos (show (0:Int)≤((2 ^ n:Nat):Int)∧2 ^ n≤281474976710656 from ⟨Int.natCast_nonneg _,Nat.le_trans hN (by decide)⟩)]
   refine ev_bind (f:=fun k vals=>some ((n:Int),strOfNums vals,true)) (taO_ev q l n hn12 hq (fr_w ok) (fun j hj=>(ok.vars j hj).1) hsum.symm ok.term hl ok.plain hK (fun t _=>ok.rootBit hK n t)) ?_
   exact ev_some _
theorem fw_ok (q:List S31) (hr:∀ j:Nat,j < q.length→(0≤(rd_T31 q (j:Int)).f1∧(rd_T31 q (j:Int)).f1≤7)∧(1≤(rd_T31 q (j:Int)).f2∧(rd_T31 q (j:Int)).f2≤8)) (hd:∀ a b:Nat,a < b→b < q.length→(rd_T31 q (a:Int)).f1≠(rd_T31 q (b:Int)).f1) :
  ∀ d i,i + d=q.length→∀ ws:List Int,ws.length=8→(∀ j:Nat,i≤j→j < q.length→rd ws (rd_T31 q (j:Int)).f1=0)→∃ ws',fwF q d i ws=some ws'∧∀ K:Int,0≤K→(∀ j:Nat,i≤j→j < q.length→(rd_T31 q (j:Int)).f1≠K)→rd ws' K=rd ws K:=by
 intro d
 induction d with
 | zero=>intro i _ ws _ _;exact ⟨ws,rfl,fun _ _ _=>rfl⟩
 | succ d ih =>
  intro i hi ws hw h0
  have hri:=hr i (by omega)
  obtain ⟨ws',e,h⟩:=ih (i + 1) (by omega) (ws.set (rd_T31 q (i:Int)).f1.toNat (rd_T31 q (i:Int)).f2) (by rw [List.length_set];exact hw) (fun j h1 h2=>by
   rw [rd_set _ _ _ _ hri.1.1 (hr j h2).1.1 (by omega),if_neg (fun e=>hd i j (by omega) h2 e.symm)]
   exact h0 j (by omega) h2)
  refine ⟨ws',?_,fun K hK hn=>?_⟩
  ·unfold fwF
   rw [if_pos ⟨hri.1,hri.2,h0 i (Nat.le_refl _) (by omega)⟩]
   exact e
  ·rw [h K hK (fun j h1 h2=>hn j (by omega) h2),rd_set _ _ _ _ hri.1.1 hK (by omega),if_neg (fun e=>hn i (Nat.le_refl _) (by omega) e.symm)]
theorem fn_all (l:List S52) (ms:List Bool) (ws:List Int) (h:∀ j:Nat,j < l.length→qu (rd_T52 l (j:Int)).f0=false∧(rdOf false ms (j:Int)=true→(rd_T52 l (j:Int)).f0=1→rd ws (rd_T52 l (j:Int)).f2=(rd_T52 l (j:Int)).f1)):∀ d i,i + d=l.length→fnF l ms ws d i=true:=by
 intro d
 induction d with
 | zero=>intro i _;rfl
 | succ d ih =>
  intro i hi
  have hj:=h i (by omega)
  simp only [fnF,hj.1,ih (i + 1) (by omega),Bool.not_false,Bool.true_and,Bool.and_true]
  by_cases c:rdOf false ms (i:Int)=true
  ·rw [if_pos c]
   by_cases c1:(rd_T52 l (i:Int)).f0=1
   ·rw [if_pos c1]
    exact beq_iff_eq.2 (hj.2 c c1)
   ·rw [if_neg c1]
  ·rw [if_neg c]
theorem frF_of {q:List S31} {l:List S52} {ws:List Int} (h:FrOk q l ws):frF q l=true:=by
 unfold frF
 rw [h.fw]
 simp only [h.term,h.fits,beq_iff_eq.2 h.root,Bool.and_self]
theorem sw_sum (q:List S31):∀ d i,i + d=q.length→swF q d i=((q.drop i).map fun x=>x.f2).sum:=by
 intro d
 induction d with
 | zero=>intro i hi;rw [List.drop_of_length_le (by omega)];rfl
 | succ d ih =>
  intro i hi
  rw [List.drop_eq_getElem_cons (show i < q.length by omega),List.map_cons,List.sum_cons,← ih (i + 1) (by omega)]
  simp only [swF]
  rw [rdQ_nat,getD_lt q i _ (by omega)]
theorem qB_sm (l:List S52):qB l=sm (fun j=>nB (rd_T52 l (j:Int))) l.length:=by
 have main:∀ i,i≤l.length→((l.take i).map nB).sum=sm (fun j=>nB (rd_T52 l (j:Int))) i:=by
  intro i
  induction i with
  | zero=>intro _;rfl
  | succ i ih =>
   intro hi
   rw [List.take_succ_eq_append_getElem (by omega),List.map_append,List.sum_append,ih (by omega)]
   simp only [sm,List.map_cons,List.map_nil,List.sum_cons,List.sum_nil,Nat.add_zero]
   rw [rdN_nat,getD_lt l i _ (by omega)]
 have:=main l.length (Nat.le_refl _)
 rw [List.take_length] at this
 exact this
def blF (l:List S52):Nat→Nat→Nat
 | 0,p=>p
 | d + 1,p=>if qu (rd_T52 l (p:Int)).f0=true then blF l d (rd_T52 l (p:Int)).f3.toNat else p
theorem bl_ok (l:List S52) (hT:tmF l=true):∀ d p,p < d→p < l.length→Ev (fun k=>spec_l05Below.l0 k l (p:Int)) ((blF l d p:Nat):Int)∧blF l d p≤p∧qu (rd_T52 l ((blF l d p:Nat):Int)).f0=false∧(rd_T52 l ((blF l d p:Nat):Int)).f1=(rd_T52 l (p:Int)).f1∧(rdOf false (mkS l) (p:Int)=true→rdOf false (mkS l) ((blF l d p:Nat):Int)=true):=by
 intro d
 induction d with
 | zero=>intro p h;omega
 | succ d ih =>
  intro p hd hp
  cases hq:qu (rd_T52 l (p:Int)).f0 with
  | false =>
   have hbl:blF l (d + 1) p=p:=by simp only [blF,hq,Bool.false_eq_true,if_false]
   rw [hbl]
   refine ⟨ev_succ ?_,Nat.le_refl _,hq,rfl,fun h=>h⟩
   simp only [spec_l05Below.l0,if_pos (show 0≤(p:Int) by omega),if_pos (show (p:Int) < (l.length:Int) by omega),quS,Option.bind_some,hq,Bool.false_eq_true,if_false]
   exact ev_some _
  | true =>
   have hbl:blF l (d + 1) p=blF l d (rd_T52 l (p:Int)).f3.toNat:=by simp only [blF,hq,if_true]
   rw [hbl]
   have hqu:=tm_qu l hT p hp hq
   have hmem:(rd_T52 l (p:Int)).f3∈np (rd_T52 l (p:Int)):=by rw [hqu.2.2.1];exact List.mem_singleton.2 rfl
   have hb:=tm_parts l hT p hp _ hmem
   obtain ⟨x,hx⟩:=Int.eq_ofNat_of_zero_le hb.1
   have hw:=hqu.2.2.2
   rw [hx] at hb hmem hw ⊢
   rw [Int.toNat_natCast]
   obtain ⟨e,h1,h2,h3,h4⟩:=ih x (by omega) (by omega)
   refine ⟨ev_succ ?_,by omega,h2,by rw [h3,hw.1,hw.2],fun h=>h4 (mk_parts l hT p hp h _ hmem)⟩
   simp only [spec_l05Below.l0,if_pos (show 0≤(p:Int) by omega),if_pos (show (p:Int) < (l.length:Int) by omega),quS,Option.bind_some,hq,if_true,hx]
   exact e
abbrev blS (l:List S52) (x:Int):Int:=((blF l l.length x.toNat:Nat):Int)
theorem blS_ev (l:List S52) (hT:tmF l=true) (x:Int) (h0:0≤x) (h1:x < (l.length:Int)):Ev (fun k=>spec_l05Below.f k l x) (blS l x):=by
 obtain ⟨p,rfl⟩:=Int.eq_ofNat_of_zero_le h0
 exact (bl_ok l hT l.length p (by omega) (by omega)).1
def thr (l:List S52) (i:Nat):List S52:=(List.range i).map fun j:Nat=>mv (blS l) (rd_T52 l (j:Int))
theorem thr_length (l:List S52) (i:Nat):(thr l i).length=i:=by simp [thr]
theorem thr_succ (l:List S52) (i:Nat):thr l (i + 1)=thr l i ++ [mv (blS l) (rd_T52 l (i:Int))]:=by simp [thr,List.range_succ]
theorem thr_take (l:List S52) (i m:Nat) (h:m≤i):(thr l i).take m=thr l m:=by
 unfold thr
 rw [← List.map_take,List.take_range,Nat.min_eq_left h]
theorem thr_at (l:List S52) (i j:Nat) (h:j < i):rd_T52 (thr l i) (j:Int)=mv (blS l) (rd_T52 l (j:Int)):=by
 rw [rdN_nat,getD_lt _ j _ (by rw [thr_length];exact h)]
 simp [thr]
theorem thr_tm (l:List S52) (hT:tmF l=true) (m:Nat) (h1:1≤m) (h2:m≤l.length):tmF (thr l m)=true:=by
 have hl8:=tm_len hT
 refine tm_all (by rw [thr_length];exact h1) (by rw [thr_length];omega) (fun j hj=>?_)
 rw [thr_length] at hj
 rw [thr_take l m j (by omega),thr_at l m j hj]
 refine nd_move (l.take j) (thr l j) _ _ (tm_nd l hT j (by omega)) (fun p hp=>?_)
 have hb:=tm_parts l hT j (by omega) p hp
 obtain ⟨x,rfl⟩:=Int.eq_ofNat_of_zero_le hb.1
 obtain ⟨_,g1,_,g3,_⟩:=bl_ok l hT l.length x (by omega) (by omega)
 rw [rd_take l j x (by omega),thr_length]
 simp only [blS,Int.toNat_natCast]
 rw [thr_at l j _ (by omega)]
 exact ⟨by omega,g3⟩
theorem front_j1 (l:List S52) (q:List S31) (acc:List S52) (ha:acc.length < 2932031007402) (i:Nat) (hi:i < 4611686018427387904) (ps:List Int) (a0 a1 a2 a3 a4 a5 b4 b5:Int) (R:List S31 × List S52 × Bool)
  (h4:1 < ps.length→Ev (fun k=>spec_l05Below.f k l a4) b4) (h5:2 < ps.length→Ev (fun k=>spec_l05Below.f k l a5) b5) (e:Ev (fun k=>spec_Front.l0 k l q (acc ++ [⟨a0,a1,a2,a3,if 1 < ps.length then b4 else a4,if 2 < ps.length then b5 else a5⟩]) ((i + 1:Nat):Int)) R) :
  Ev (fun k=>spec_Front.j1 k l q acc (i:Int) ps a0 a1 a2 a3 a4 a5) R:=by
 refine ev_succ ?_
 by_cases c1:1 < ps.length
 ·rw [if_pos c1] at e
  by_cases c2:2 < ps.length
  ·rw [if_pos c2] at e
   simp only [spec_Front.j1,if_pos (show (ps.length:Int) > 1 by omega),if_pos (show (ps.length:Int) > 2 by omega),if_pos ha,w64s i hi]
   exact ev_bind (h4 c1) (ev_bind (h5 c2) e)
  ·rw [if_neg c2] at e
   simp only [spec_Front.j1,if_pos (show (ps.length:Int) > 1 by omega),if_neg (show ¬ (ps.length:Int) > 2 by omega),if_pos ha,w64s i hi]
   exact ev_bind (h4 c1) e
 ·rw [if_neg c1,if_neg (show ¬ 2 < ps.length by omega)] at e
  simp only [spec_Front.j1,if_neg (show ¬ (ps.length:Int) > 1 by omega),if_neg (show ¬ (ps.length:Int) > 2 by omega),if_pos ha,w64s i hi]
  exact e
theorem front_loop (l:List S52) (hT:tmF l=true) (q:List S31) (R:List S31 × List S52 × Bool) (hE:Ev (fun k=>spec_Front.l0 k l q (thr l l.length) (l.length:Int)) R):∀ d i,i + d=l.length→Ev (fun k=>spec_Front.l0 k l q (thr l i) (i:Int)) R:=by
 have hl8:=tm_len hT
 intro d
 induction d with
 | zero =>
  intro i hi
  obtain rfl:i=l.length:=by omega
  exact hE
 | succ d ih =>
  intro i hi
  have e:=ih (i + 1) (by omega)
  rw [thr_succ] at e
  have hpp:=tm_parts l hT i (by omega)
  have hmem:=np_mem (rd_T52 l (i:Int))
  have ev:∀ x∈np (rd_T52 l (i:Int)),Ev (fun k=>spec_l05Below.f k l x) (blS l x):=fun x hx=>by
   have:=hpp x hx
   exact blS_ev l hT x (by omega) (by omega)
  refine ev_succ ?_
  simp only [spec_Front.l0,if_pos (show (i:Int) < (l.length:Int) by omega),if_pos (show 0≤(i:Int) by omega)]
  refine ev_bind (np_ev (rd_T52 l (i:Int))) ?_
  by_cases c0:0 < (np (rd_T52 l (i:Int))).length
  ·simp only [if_pos (show ((np (rd_T52 l (i:Int))).length:Int) > 0 by omega)]
   refine ev_bind (ev _ (hmem.1 c0)) ?_
   refine front_j1 l q (thr l i) (by rw [thr_length];omega) i (by omega) _ _ _ _ _ _ _ _ _ R (fun h=>ev _ (hmem.2.1 h)) (fun h=>ev _ (hmem.2.2 h)) ?_
   unfold mv at e
   rw [if_pos c0] at e
   exact e
  ·simp only [if_neg (show ¬ ((np (rd_T52 l (i:Int))).length:Int) > 0 by omega)]
   refine front_j1 l q (thr l i) (by rw [thr_length];omega) i (by omega) _ _ _ _ _ _ _ (blS l (rd_T52 l (i:Int)).f4) (blS l (rd_T52 l (i:Int)).f5) R (fun h=>by omega) (fun h=>by omega) ?_
   unfold mv at e
   rw [if_neg c0] at e
   exact e
theorem thr_mk (l:List S52) (hT:tmF l=true) (m:Nat) (hm:(m:Int)=blS l ((l.length:Int) - 1)) (h2:m < l.length):∀ d p,m≤p + d→p < m + 1→rdOf false (mkS (thr l (m + 1))) (p:Int)=true→rdOf false (mkS l) (p:Int)=true∧qu (rd_T52 l (p:Int)).f0=false:=by
 have hp:=tm_pos hT
 have hT2:=thr_tm l hT (m + 1) (by omega) (by omega)
 have root:rdOf false (mkS l) (m:Int)=true∧qu (rd_T52 l (m:Int)).f0=false:=by
  obtain ⟨_,_,g2,_,g4⟩:=bl_ok l hT l.length (l.length - 1) (by omega) (by omega)
  have e:((m:Nat):Int)=((blF l l.length (l.length - 1):Nat):Int):=by
   rw [hm]
   unfold blS
   rw [show ((l.length:Int) - 1).toNat=l.length - 1 from by omega]
  rw [e]
  exact ⟨g4 (mk_root l hp),g2⟩
 intro d
 induction d with
 | zero =>
  intro p h1 h3 _
  obtain rfl:p=m:=by omega
  exact root
 | succ d ih =>
  intro p h1 h3 hmk
  by_cases e:p=m
  ·subst e
   exact root
  ·obtain ⟨j,hj1,hj2,hjm,hjp⟩:=mk_from (thr l (m + 1)) hT2 p hmk (by rw [thr_length];omega)
   rw [thr_length] at hj2
   have hj:=ih j (by omega) hj2 hjm
   rw [thr_at l (m + 1) j hj2,mv_np] at hjp
   obtain ⟨x,hx,ex⟩:=List.mem_map.1 hjp
   have hb:=tm_parts l hT j (by omega) x hx
   have hmx:=mk_parts l hT j (by omega) hj.1 x hx
   obtain ⟨y,rfl⟩:=Int.eq_ofNat_of_zero_le hb.1
   obtain ⟨_,_,g2,_,g4⟩:=bl_ok l hT l.length y (by omega) (by omega)
   unfold blS at ex
   rw [Int.toNat_natCast] at ex
   rw [← ex]
   exact ⟨g4 hmx,g2⟩
theorem qs_at {l:List S52} {q:List S31} (Q:QsOk l q) (j:Nat) (hj:j < q.length):∃ i,i∈qs l (vsS l)∧(rd_T31 q (j:Int)).f1=(rd_T52 l (i:Int)).f2∧(rd_T31 q (j:Int)).f2=(rd_T52 l (i:Int)).f4:=by
 rw [rdQ_nat,getD_lt q j _ hj]
 have h:(q[j].f1,q[j].f2)∈q.map (fun x=>(x.f1,x.f2)):=List.mem_map.2 ⟨q[j],List.getElem_mem hj,rfl⟩
 rw [Q.map] at h
 obtain ⟨i,hi,e⟩:=List.mem_map.1 h
 have:=Prod.mk.inj e
 exact ⟨i,hi,this.1.symm,this.2.symm⟩
theorem qs_of {l:List S52} {q:List S31} (Q:QsOk l q) (i:Nat) (hi:i∈qs l (vsS l)):∃ j:Nat,j < q.length∧(rd_T31 q (j:Int)).f1=(rd_T52 l (i:Int)).f2∧(rd_T31 q (j:Int)).f2=(rd_T52 l (i:Int)).f4:=by
 have h:qp l i∈(qs l (vsS l)).map (qp l):=List.mem_map.2 ⟨i,hi,rfl⟩
 rw [← Q.map] at h
 obtain ⟨x,hx,e⟩:=List.mem_map.1 h
 obtain ⟨j,hj,rfl⟩:=List.getElem_of_mem hx
 have:=Prod.mk.inj e
 refine ⟨j,hj,?_⟩
 rw [rdQ_nat,getD_lt q j _ hj]
 exact this
theorem qs_nd {l:List S52} (S:SnOk l) {q:List S31} (Q:QsOk l q):(q.map fun x=>x.f1).Nodup:=by
 obtain ⟨ws,_,I,_⟩:=S.ws
 show (q.map fun x=>x.f1).Pairwise (· ≠ ·)
 have e:(q.map fun x=>x.f1)=(qs l (vsS l)).map fun j:Nat=>(rd_T52 l (j:Int)).f2:=by
  have:=congrArg (List.map Prod.fst) Q.map
  rw [List.map_map,List.map_map] at this
  exact this
 rw [e,List.pairwise_map]
 refine List.Pairwise.imp_of_mem (fun {a b} ha hb hab e2=>?_) Q.nd
 have ha2:=(Q.mem a).1 ha
 have hb2:=(Q.mem b).1 hb
 exact hab (I.one a b ha2.1 hb2.1 ha2.2 hb2.2 e2)
theorem qs_apart {l:List S52} (S:SnOk l) {q:List S31} (Q:QsOk l q):∀ a b:Nat,a < b→b < q.length→(rd_T31 q (a:Int)).f1≠(rd_T31 q (b:Int)).f1:=by
 have h:(q.map fun x=>x.f1).Pairwise (· ≠ ·):=qs_nd S Q
 intro a b hab hb
 have:=List.pairwise_iff_getElem.1 h a b (by rw [List.length_map];omega) (by rw [List.length_map];exact hb) hab
 rw [rdQ_nat,rdQ_nat,getD_lt q a _ (by omega),getD_lt q b _ hb]
 simpa using this
theorem qs_bits {l:List S52} (S:SnOk l) {q:List S31} (Q:QsOk l q):swF q q.length 0≤((qB l:Nat):Int):=by
 have hT:=S.tm
 rw [sw_sum q q.length 0 (by omega),List.drop_zero]
 have e:(q.map fun x=>x.f2)=(qs l (vsS l)).map fun j:Nat=>(rd_T52 l (j:Int)).f4:=by
  have:=congrArg (List.map Prod.snd) Q.map
  rw [List.map_map,List.map_map] at this
  exact this
 rw [e]
 have h1:∀ V:List Nat,(∀ j∈V,j < l.length∧qu (rd_T52 l (j:Int)).f0=true)→(V.map fun j:Nat=>(rd_T52 l (j:Int)).f4).sum=(((V.map fun j:Nat=>nB (rd_T52 l (j:Int))).sum:Nat):Int):=by
  intro V
  induction V with
  | nil=>intro _;rfl
  | cons a V ih =>
   intro h
   have ha:=h a (List.mem_cons_self ..)
   have hq:=tm_qu l hT a ha.1 ha.2
   have hn:((nB (rd_T52 l (a:Int)):Nat):Int)=(rd_T52 l (a:Int)).f4:=by
    unfold nB
    rw [if_pos ((qu_iff _).1 ha.2)]
    omega
   rw [List.map_cons,List.sum_cons,List.map_cons,List.sum_cons,ih (fun j hj=>h j (List.mem_cons_of_mem _ hj)),Int.natCast_add,hn]
 rw [h1 _ (fun j hj=>⟨((Q.mem j).1 hj).1,((Q.mem j).1 hj).2.2⟩),sm_count (fun j:Nat=>nB (rd_T52 l (j:Int))) l.length _ (fun j hj=>((Q.mem j).1 hj).1),qB_sm]
 have:=sm_le (f:=fun j=>(qs l (vsS l)).count j * nB (rd_T52 l (j:Int))) (g:=fun j:Nat=>nB (rd_T52 l (j:Int))) l.length (fun j _=>by
  have h:=Nat.mul_le_mul_right (nB (rd_T52 l (j:Int))) (List.nodup_iff_count.1 Q.nd j)
  rw [Nat.one_mul] at h
  exact h)
 omega
theorem front_ok (l:List S52) (h:Ev (fun k=>spec_Sentence.f k l) true) (S:SnOk l):∃ q r ws,Ev (fun k=>spec_Front.f k l) (q,r,true)∧FrOk q r ws∧swF q q.length 0≤((qB l:Nat):Int)∧q.length≤80∧r.length≤80∧(q.map fun x=>x.f1).Nodup:=by
 have hT:=S.tm
 have hl8:=tm_len hT
 have hp:=tm_pos hT
 obtain ⟨q,eq,Q⟩:=qs_ok S
 have hw:wrap64 ((l.length:Int) - 1)=(l.length:Int) - 1:=w64 (by omega) (by omega)
 have hql:q.length≤80:=by
  have h1:=congrArg List.length Q.map
  rw [List.length_map,List.length_map] at h1
  have h2:(qs l (vsS l)).length≤(vsS l).length:=List.length_filter_le _ _
  have h3:(vsS l).length≤l.length:=vs_len l hT l.length (l.length - 1) (by omega) (by omega) (mk_root l hp) (vs_nodup S)
  omega
 have hr:∀ j:Nat,j < q.length→(0≤(rd_T31 q (j:Int)).f1∧(rd_T31 q (j:Int)).f1≤7)∧(1≤(rd_T31 q (j:Int)).f2∧(rd_T31 q (j:Int)).f2≤8):=fun j hj=>by
  obtain ⟨i,hi,e1,e2⟩:=qs_at Q j hj
  have hi2:=(Q.mem i).1 hi
  have:=tm_qu l hT i hi2.1 hi2.2.2
  rw [e1,e2]
  exact ⟨this.1,this.2.1⟩
 obtain ⟨ws,efw,_⟩:=fw_ok q hr (qs_apart S Q) q.length 0 (by omega) (List.replicate 8 0) rfl (fun j _ hj=>by
  obtain ⟨K,hK⟩:=Int.eq_ofNat_of_zero_le (hr j hj).1.1
  rw [hK,rd_nat,List.getD_eq_getElem?_getD,List.getElem?_replicate]
  split <;> rfl)
 have hvars:∀ j:Nat,j < q.length→(0≤(rd_T31 q (j:Int)).f1∧(rd_T31 q (j:Int)).f1≤7)∧(1≤(rd_T31 q (j:Int)).f2∧(rd_T31 q (j:Int)).f2≤8)∧rd ws (rd_T31 q (j:Int)).f1=(rd_T31 q (j:Int)).f2:=fun j hj=>fwF_at q q.length 0 _ ws rfl efw j (by omega) (by omega)
 obtain ⟨m,hm⟩:∃ m:Nat,(m:Int)=blS l ((l.length:Int) - 1):=⟨_,rfl⟩
 have hroot:=bl_ok l hT l.length (l.length - 1) (by omega) (by omega)
 have em:m=blF l l.length (l.length - 1):=by
  unfold blS at hm
  rw [show ((l.length:Int) - 1).toNat=l.length - 1 from by omega] at hm
  omega
 rw [← em] at hroot
 have hml:m < l.length:=by omega
 have hT2:=thr_tm l hT (m + 1) (by omega) (by omega)
 obtain ⟨r,er,hTr,hwr,hof⟩:=prune_ok (thr l (m + 1)) hT2
 rw [thr_length] at hwr hof
 have hnode:∀ j:Nat,j < r.length→qu (rd_T52 r (j:Int)).f0=false∧((rd_T52 r (j:Int)).f0=1→rd ws (rd_T52 r (j:Int)).f2=(rd_T52 r (j:Int)).f1):=fun j hj=>by
  obtain ⟨p,hpm,hmk,e0,e1,e2⟩:=hof j hj
  have hk:=thr_mk l hT m hm hml m p (by omega) hpm hmk
  rw [thr_at l (m + 1) p hpm] at e0 e1 e2
  rw [e0,e1,e2]
  refine ⟨hk.2,fun h1=>?_⟩
  obtain ⟨ws0,hw8,I,hv⟩:=S.ws
  have hp2:p < l.length:=by omega
  have hvp:=hv p hp2 hk.1 h1
  have hvar:=tm_var l hT p hp2 h1
  have hnw:=nd_w l hT p hp2
  obtain ⟨v,hv2⟩:=Int.eq_ofNat_of_zero_le hvar.1
  show rd ws (rd_T52 l (p:Int)).f2=(rd_T52 l (p:Int)).f1
  obtain ⟨j',hj',hQ,ej⟩:=I.has v (by omega) (by rw [← hv2,hvp];omega)
  obtain ⟨a,ha,a1,a2⟩:=qs_of Q j' ((Q.mem j').2 ⟨hj',hQ⟩)
  have h5:=I.at_ j' hj' hQ
  have h6:=(hvars a ha).2.2
  rw [a1,a2] at h6
  rw [hv2,← ej,h6,← h5,ej,← hv2,hvp]
 have ok:FrOk q r ws:=by
  refine ⟨hvars,efw,hTr,?_,fn_all r _ ws (fun j hj=>⟨(hnode j hj).1,fun _=>(hnode j hj).2⟩) r.length 0 (by omega)⟩
  rw [hwr,show (((m + 1:Nat):Int) - 1)=(m:Int) from by omega,thr_at l (m + 1) m (by omega)]
  show (rd_T52 l (m:Int)).f1=1
  rw [hroot.2.2.2.1,show ((l.length - 1:Nat):Int)=(l.length:Int) - 1 from by omega]
  exact S.root
 refine ⟨q,r,ws,?_,ok,qs_bits S Q,hql,tm_len hTr,qs_nd S Q⟩
 unfold spec_Front.f
 refine ev_bind h ?_
 simp only [if_true,hw]
 refine ev_bind (hold_ev l hT (by omega)) (ev_bind eq ?_)
 refine front_loop l hT q _ ?_ l.length 0 (by omega)
 refine ev_succ ?_
 simp only [spec_Front.l0,if_neg (show ¬ (l.length:Int) < (l.length:Int) by omega),hw]
 refine ev_bind (a:=(m:Int)) (by rw [hm];exact blS_ev l hT _ (by omega) (by omega)) ?_
 have hw2:wrap64 ((m:Int) + 1)=((m + 1:Nat):Int):=w64s m (by omega)
 have z1:(0:Int)≤((m + 1:Nat):Int):=Int.natCast_nonneg _
 have z2:((m + 1:Nat):Int)≤(l.length:Int):=Int.ofNat_le.2 hml
 have z3:=thr_take l l.length (m + 1) hml
 simp only [hw2,if_pos z1,thr_length,if_pos z2,Int.toNat_natCast,z3]
 exact ev_bind er (ev_some _)
theorem ones_data (l:List Bool):(ones l).data.toList=l.map fun b=>if b then (49:UInt8) else 48:=by simp [ones]
theorem contains1 (l:List Bool):(ones l).data.toList.contains 49=l.contains true:=by
 rw [ones_data]
 induction l with
 | nil=>rfl
 | cons b l ih =>
  rw [List.map_cons,List.contains_cons,List.contains_cons,ih]
  congr 1
  cases b <;> rfl
theorem contains0 (l:List Bool):(ones l).data.toList.contains 48=l.contains false:=by
 rw [ones_data]
 induction l with
 | nil=>rfl
 | cons b l ih =>
  rw [List.map_cons,List.contains_cons,List.contains_cons,ih]
  congr 1
  cases b <;> rfl
theorem impl_Table_known_eq (N:Int) (l:List Bool):impl_Table_known.f N (ones l)=some (if l.contains true then (if l.contains false then -1 else 1) else 0):=by
 unfold impl_Table_known.f
 rw [show strings_Contains.f (ones l) ⟨#[49]⟩=some ((ones l).data.toList.contains 49) from rfl,show strings_Contains.f (ones l) ⟨#[48]⟩=some ((ones l).data.toList.contains 48) from rfl,contains1,contains0]
 have hb:∀ b,impl_bit.f b=some (if b then 1 else 0):=fun b=>by cases b <;> rfl
 simp only [Option.bind_some,hb]
 cases l.contains true <;> cases l.contains false <;> rfl
theorem ones_extract (l:List Bool) (a b:Nat):(ones l).extract a b=ones ((l.take b).drop a):=by
 apply data_inj
 rw [ByteArray.data_extract]
 simp only [ones,Array.toList_extract,List.extract_eq_take_drop,List.map_drop,List.map_take]
 rw [List.drop_take]
def halfL (l:List Bool) (h:Bool):List Bool:=if h then l.drop (l.length / 2) else l.take (l.length / 2)
theorem halfL_len {n:Nat} {l:List Bool} (hl:l.length=2 ^ (n + 1)) (h:Bool):(halfL l h).length=2 ^ n:=by
 rw [Nat.pow_succ] at hl
 cases h <;> simp [halfL] <;> omega
theorem impl_half_eq (n:Nat) (l:List Bool) (hn:n≤11) (hl:l.length=2 ^ (n + 1)) (h:Int):impl_Table_half.f ((n + 1:Nat):Int) (ones l) h=some ((n:Int),ones (halfL l (h != 0))):=by
 have hp:=pow12 (n:=n + 1) (by omega)
 unfold impl_Table_half.f
 rw [ones_size,show ((l.length:Nat):Int) / 2=((l.length / 2:Nat):Int) by omega,w64 (n:=((l.length / 2:Nat):Int)) (by omega) (by omega),w64 (n:=((n + 1:Nat):Int) - 1) (by omega) (by omega),show ((n + 1:Nat):Int) - 1=(n:Int) by omega,Int.toNat_natCast]
 by_cases h0:h=0
 ·rw [if_pos h0,if_pos (by omega),if_pos (by omega),ones_extract,h0]
  rfl
 ·have e:(h != 0)=true:=bne_iff_ne.2 h0
  rw [if_neg h0,if_pos (by omega),if_pos (by omega),ones_extract,List.take_of_length_le (by omega),e]
  rfl
def dec:List Bool→List Bool→Bool
 | [],l=>l.getD 0 false
 | a :: r,l=>if a then dec r (halfL l false) && dec r (halfL l true) else dec r (halfL l false) || dec r (halfL l true)
theorem dec_const (b:Bool):∀ (r l:List Bool),l.length=2 ^ r.length→l.contains (!b)=false→dec r l=b:=by
 intro r
 induction r with
 | nil =>
  intro l hl hc
  match l,hl with
  | [x],_=>cases b <;> cases x <;> simp_all [dec]
 | cons a r ih =>
  intro l hl hc
  have hsub:∀ h,(halfL l h).contains (!b)=false:=by
   intro h
   rw [← Bool.not_eq_true,List.contains_iff_mem] at hc ⊢
   intro hm
   apply hc
   cases h
   ·exact List.mem_of_mem_take hm
   ·exact List.mem_of_mem_drop hm
  simp only [dec]
  rw [ih _ (halfL_len (by simpa using hl) false) (hsub false),ih _ (halfL_len (by simpa using hl) true) (hsub true)]
  cases a <;> cases b <;> rfl
def b01 (b:Bool):Int:=if b then 1 else 0
theorem impl_decide_eq:∀ (r l:List Bool),r.length≤12→l.length=2 ^ r.length→∀ k,r.length + 1 < k→impl_decide.f k r (r.length:Int) (ones l)=some (b01 (dec r l)):=by
 intro r
 induction r with
 | nil =>
  intro l _ hl k hk
  obtain ⟨k,rfl⟩:∃ m,k=m + 1:=⟨k - 1,by omega⟩
  simp only [impl_decide.f]
  match l,hl with
  | [x],_ =>
   rw [impl_Table_known_eq,Option.bind_some]
   cases x <;> rfl
 | cons a r ih =>
  intro l hr hl k hk
  obtain ⟨k,rfl⟩:∃ m,k=m + 1:=⟨k - 1,by omega⟩
  simp only [List.length_cons] at hr hl hk
  simp only [impl_decide.f]
  rw [impl_Table_known_eq,Option.bind_some]
  cases h1:l.contains true
  ·rw [show (if false=true then (if l.contains false=true then (-1:Int) else 1) else 0)=0 from rfl,if_pos (by decide),dec_const false (a :: r) l hl (by simpa using h1)]
   rfl
  ·cases h0:l.contains false
   ·rw [show (if true=true then (if false=true then (-1:Int) else 1) else 0)=1 from rfl,if_pos (by decide),dec_const true (a :: r) l hl (by simpa using h0)]
    rfl
   ·rw [show (if true=true then (if true=true then (-1:Int) else 1) else 0) = -1 from rfl,if_neg (by decide),List.length_cons,if_pos (by omega),impl_half_eq r.length l (by omega) hl 0,Option.bind_some,impl_half_eq r.length l (by omega) hl 1]
    simp only [Option.bind_some,List.drop_one,List.tail_cons]
    rw [ih _ (by omega) (halfL_len hl _) k (by omega),ih _ (by omega) (halfL_len hl _) k (by omega)]
    simp only [Option.bind_some]
    rw [if_pos (by omega),show rdOf false (a :: r) 0=a from rfl]
    simp only [dec]
    have e0:((0:Int) != 0)=false:=rfl
    have e1:((1:Int) != 0)=true:=rfl
    rw [e0,e1]
    cases a <;> cases dec r (halfL l false) <;> cases dec r (halfL l true) <;> rfl
def decT (r:List Bool) (N:Int) (s:ByteArray):Int × Bool:=if tok N s && ((r.length:Int) == N) then (b01 (dec r (flags s)),true) else (0,false)
theorem impl_Decide_eq (r:List Bool) (N:Int) (s:ByteArray) (hs:s.size≤1099511627776):∀ k,s.size + 40 < k→impl_Decide.f k r N s=some (decT r N s):=by
 intro k hk
 unfold impl_Decide.f impl_rowed.f decT
 rw [impl_TableOk_eq N s hs k (by omega),Option.bind_some]
 cases ht:tok N s with
 | false=>rfl
 | true =>
  obtain ⟨n,l,rfl,hn,hl,rfl⟩:=tok_form ht
  rw [if_pos rfl,Option.bind_some,flags_ones,Bool.true_and]
  by_cases hr:(r.length:Int)=(n:Int)
  ·have hr2:r.length=n:=by omega
   subst hr2
   rw [if_pos (by simp),if_pos (by simp),impl_decide_eq r l hn hl k (by omega)]
   rfl
  ·rw [if_neg (by simpa using hr),if_neg (by simpa using hr)]
def slc (L:List Bool) (m x:Nat):List Bool:=(L.drop (x * 2 ^ m)).take (2 ^ m)
theorem slc_low {L:List Bool} {w m x:Nat} (hL:L.length=2 ^ (w + m + 1)) (hx:x < 2 ^ w):slc (halfL L false) m x=slc L m x:=by
 unfold slc halfL
 have e:L.length / 2=2 ^ w * 2 ^ m:=by rw [hL,Nat.pow_succ,Nat.mul_div_cancel _ (by decide),Nat.pow_add]
 have h:x * 2 ^ m + 2 ^ m≤2 ^ w * 2 ^ m:=by
  have:=Nat.mul_le_mul_right (2 ^ m) (show x + 1≤2 ^ w from hx)
  rw [Nat.add_mul,Nat.one_mul] at this
  exact this
 rw [if_neg (by decide),e,List.drop_take,List.take_take,Nat.min_eq_left (by omega)]
theorem slc_high {L:List Bool} {w m x:Nat} (hL:L.length=2 ^ (w + m + 1)):slc (halfL L true) m x=slc L m (2 ^ w + x):=by
 unfold slc halfL
 have e:L.length / 2=2 ^ w * 2 ^ m:=by rw [hL,Nat.pow_succ,Nat.mul_div_cancel _ (by decide),Nat.pow_add]
 rw [if_pos rfl,e,List.drop_drop,Nat.add_mul]
theorem pow_step (w:Nat):2 ^ (w + 1)=2 ^ w + 2 ^ w:=by rw [Nat.pow_succ];omega
theorem dec_all (r:List Bool) (m:Nat):∀ (w:Nat) (L:List Bool),L.length=2 ^ (w + m)→(dec (List.replicate w true ++ r) L=true↔∀ x,x < 2 ^ w→dec r (slc L m x)=true):=by
 intro w
 induction w with
 | zero =>
  intro L hL
  have e:slc L m 0=L:=by unfold slc;rw [Nat.zero_mul,List.drop_zero,List.take_of_length_le (by rw [hL];simp)]
  constructor
  ·intro h x hx
   obtain rfl:x=0:=by simpa using hx
   rw [e]
   exact h
  ·intro h
   have:=h 0 (by simp)
   rw [e] at this
   exact this
 | succ w ih =>
  intro L hL
  have hL2:L.length=2 ^ (w + m + 1):=by rw [hL];congr 1;omega
  rw [List.replicate_succ,List.cons_append]
  simp only [dec,if_true,Bool.and_eq_true]
  rw [ih _ (halfL_len hL2 false),ih _ (halfL_len hL2 true)]
  constructor
  ·rintro ⟨h1,h2⟩ x hx
   rcases Nat.lt_or_ge x (2 ^ w) with h|h
   ·rw [← slc_low hL2 h]
    exact h1 x h
   ·obtain ⟨y,rfl⟩:∃ y,x=2 ^ w + y:=⟨x - 2 ^ w,by omega⟩
    rw [← slc_high hL2]
    exact h2 y (by have:=pow_step w;omega)
  ·intro h
   refine ⟨fun x hx=>?_,fun x hx=>?_⟩
   ·rw [slc_low hL2 hx]
    exact h x (by have:=pow_step w;omega)
   ·rw [slc_high hL2]
    exact h _ (by have:=pow_step w;omega)
theorem dec_any (r:List Bool) (m:Nat):∀ (w:Nat) (L:List Bool),L.length=2 ^ (w + m)→(dec (List.replicate w false ++ r) L=true↔∃ x,x < 2 ^ w∧dec r (slc L m x)=true):=by
 intro w
 induction w with
 | zero =>
  intro L hL
  have e:slc L m 0=L:=by unfold slc;rw [Nat.zero_mul,List.drop_zero,List.take_of_length_le (by rw [hL];simp)]
  constructor
  ·intro h
   exact ⟨0,by simp,by rw [e];exact h⟩
  ·rintro ⟨x,hx,h⟩
   obtain rfl:x=0:=by simpa using hx
   rw [e] at h
   exact h
 | succ w ih =>
  intro L hL
  have hL2:L.length=2 ^ (w + m + 1):=by rw [hL];congr 1;omega
  rw [List.replicate_succ,List.cons_append]
  simp only [dec,Bool.false_eq_true,if_false,Bool.or_eq_true]
  rw [ih _ (halfL_len hL2 false),ih _ (halfL_len hL2 true)]
  constructor
  ·rintro (⟨x,hx,h⟩ | ⟨x,hx,h⟩)
   ·exact ⟨x,by have:=pow_step w;omega,by rw [← slc_low hL2 hx];exact h⟩
   ·exact ⟨2 ^ w + x,by have:=pow_step w;omega,by rw [← slc_high hL2];exact h⟩
  ·rintro ⟨x,hx,h⟩
   rcases Nat.lt_or_ge x (2 ^ w) with h1|h1
   ·exact Or.inl ⟨x,h1,by rw [slc_low hL2 h1];exact h⟩
   ·obtain ⟨y,rfl⟩:∃ y,x=2 ^ w + y:=⟨x - 2 ^ w,by omega⟩
    exact Or.inr ⟨y,by have:=pow_step w;omega,by rw [slc_high hL2];exact h⟩
def eqv (q:List S31) (i:Nat) (xs ys:List Int):Prop:=xs.length=ys.length∧∀ K:Nat,(∀ j:Nat,i≤j→j < q.length→(rd_T31 q (j:Int)).f1.toNat≠K)→xs[K]? = ys[K]?
theorem eqv_refl (q:List S31) (i:Nat) (xs:List Int):eqv q i xs xs:=⟨rfl,fun _ _=>rfl⟩
theorem eqv_trans {q:List S31} {i:Nat} {xs ys zs:List Int} (h:eqv q i xs ys) (h2:eqv q i ys zs):eqv q i xs zs:=⟨h.1.trans h2.1,fun K hK=>(h.2 K hK).trans (h2.2 K hK)⟩
theorem eqv_set {q:List S31} {i:Nat} {xs ys:List Int} (h:eqv q i xs ys) (v:Int):eqv q (i + 1) (xs.set (rd_T31 q (i:Int)).f1.toNat v) (ys.set (rd_T31 q (i:Int)).f1.toNat v):=by
 refine ⟨by rw [List.length_set,List.length_set];exact h.1,fun K hK=>?_⟩
 rw [List.getElem?_set,List.getElem?_set,h.1]
 by_cases e:(rd_T31 q (i:Int)).f1.toNat=K
 ·rw [if_pos e,if_pos e]
 ·rw [if_neg e,if_neg e]
  refine h.2 K (fun j h1 h2=>?_)
  rcases Nat.eq_or_lt_of_le h1 with rfl|h3
  ·exact e
  ·exact hK j (by omega) h2
theorem eqv_drop {q:List S31} {i:Nat} (hi:i < q.length) {xs ys:List Int} {v:Int} (h:eqv q (i + 1) xs (ys.set (rd_T31 q (i:Int)).f1.toNat v)):eqv q i xs ys:=by
 refine ⟨by rw [h.1,List.length_set],fun K hK=>?_⟩
 rw [h.2 K (fun j h1 h2=>hK j (by omega) h2),List.getElem?_set,if_neg (hK i (Nat.le_refl _) hi)]
theorem tiF_eqv (q:List S31) (t:Nat):∀ d i,i + d=q.length→∀ a (xs ys:List Int),eqv q i xs ys→tiF q t d i a xs=tiF q t d i a ys:=by
 intro d
 induction d with
 | zero =>
  intro i hi a xs ys h
  exact List.ext_getElem? fun K=>h.2 K (fun j h1 h2=>by omega)
 | succ d ih =>
  intro i hi a xs ys h
  simp only [tiF]
  exact ih (i + 1) (by omega) _ _ _ (eqv_set h _)
theorem tiF_back (q:List S31) (t:Nat):∀ d i,i + d=q.length→∀ a (xs:List Int),eqv q i (tiF q t d i a xs) xs:=by
 intro d
 induction d with
 | zero=>intro i hi a xs;exact eqv_refl q i xs
 | succ d ih =>
  intro i hi a xs
  simp only [tiF]
  exact eqv_drop (by omega) (ih (i + 1) (by omega) _ _)
theorem tiF_mod (q:List S31) (hw:∀ j:Nat,j < q.length→1≤(rd_T31 q (j:Int)).f2∧(rd_T31 q (j:Int)).f2≤8) (t u:Nat):∀ d i,i + d=q.length→∀ (a:Nat) (xs:List Int),swF q d i=(a:Int)→t % 2 ^ a=u % 2 ^ a→tiF q t d i a xs=tiF q u d i a xs:=by
 intro d
 induction d with
 | zero=>intro i _ a xs _ _;rfl
 | succ d ih =>
  intro i hi a xs hs h
  have h1:=hw i (by omega)
  have h3:=sw_pos q hw d (i + 1) (by omega)
  simp only [swF] at hs
  obtain ⟨w,hw2⟩:=Int.eq_ofNat_of_zero_le (show 0≤(rd_T31 q (i:Int)).f2 by omega)
  obtain ⟨b,rfl⟩:∃ b,a=b + w:=⟨a - w,by omega⟩
  simp only [tiF,hw2,Int.toNat_natCast,Nat.add_sub_cancel]
  have e:t / 2 ^ b % 2 ^ w=u / 2 ^ b % 2 ^ w:=by
   rw [← Nat.mod_mul_right_div_self,← Nat.mod_mul_right_div_self,← Nat.pow_add,h]
  have e2:((t / 2 ^ b:Nat):Int) % (2:Int) ^ w=((u / 2 ^ b:Nat):Int) % (2:Int) ^ w:=by
   have:=congrArg (fun x:Nat=>(x:Int)) e
   push_cast at this ⊢
   exact this
  rw [e2]
  refine ih (i + 1) (by omega) b _ (by omega) ?_
  have hd:2 ^ b ∣ 2 ^ (b + w):=Nat.pow_dvd_pow 2 (by omega)
  rw [← Nat.mod_mod_of_dvd t hd,← Nat.mod_mod_of_dvd u hd,h]
def rwF (q:List S31):Nat→Nat→List Bool
 | 0,_=>[]
 | d + 1,i=>List.replicate (rd_T31 q (i:Int)).f2.toNat (rd_T31 q (i:Int)).f0 ++ rwF q d (i + 1)
noncomputable def rtF (l:List S52) (xs:List Int):Int:=rd (vlist l xs l.length) ((l.length:Int) - 1)
noncomputable def lfF (q:List S31) (l:List S52) (d i a:Nat) (xs:List Int):List Bool:=(List.range (2 ^ a)).map fun t=>rtF l (tiF q t d i a xs) == 1
theorem lfF_length (q:List S31) (l:List S52) (d i a:Nat) (xs:List Int):(lfF q l d i a xs).length=2 ^ a:=by simp [lfF]
theorem lfF_eqv {q:List S31} {l:List S52} {d i a:Nat} (hi:i + d=q.length) {xs ys:List Int} (h:eqv q i xs ys):lfF q l d i a xs=lfF q l d i a ys:=by
 unfold lfF
 refine List.map_congr_left fun t _=>?_
 rw [tiF_eqv q t d i hi a xs ys h]
theorem lfF_slc (q:List S31) (hw:∀ j:Nat,j < q.length→1≤(rd_T31 q (j:Int)).f2∧(rd_T31 q (j:Int)).f2≤8) (l:List S52) (d i:Nat) (hi:i + (d + 1)=q.length) (w b:Nat) (hw2:(rd_T31 q (i:Int)).f2=(w:Int)) (hs:swF q d (i + 1)=(b:Int)) (xs:List Int) (x:Nat) (hx:x < 2 ^ w) :
  slc (lfF q l (d + 1) i (w + b) xs) b x=lfF q l d (i + 1) b (xs.set (rd_T31 q (i:Int)).f1.toNat (x:Int)):=by
 have hb:0 < 2 ^ b:=Nat.two_pow_pos b
 have hxb:x * 2 ^ b + 2 ^ b≤2 ^ (w + b):=by
  have:=Nat.mul_le_mul_right (2 ^ b) (show x + 1≤2 ^ w from hx)
  rw [Nat.add_mul,Nat.one_mul,← Nat.pow_add] at this
  exact this
 unfold slc
 apply List.ext_getElem
 ·rw [List.length_take,List.length_drop,lfF_length,lfF_length]
  omega
 intro t h1 h2
 rw [lfF_length] at h2
 rw [List.getElem_take,List.getElem_drop]
 simp only [lfF,List.getElem_map,List.getElem_range]
 congr 2
 simp only [tiF,hw2,Int.toNat_natCast,Nat.add_sub_cancel_left]
 have e:(x * 2 ^ b + t) / 2 ^ b=x:=by
  rw [Nat.mul_comm,Nat.mul_add_div hb,Nat.div_eq_of_lt h2,Nat.add_zero]
 have e2:((x:Nat):Int) % (2:Int) ^ w=(x:Int):=Int.emod_eq_of_lt (Int.natCast_nonneg _) (by exact_mod_cast hx)
 rw [e,e2]
 exact tiF_mod q hw _ _ d (i + 1) (by omega) b _ hs (by rw [Nat.mul_add_mod_self_right])
end Go.Proofs.YthipjoioicmcnaaGreat.Pure
