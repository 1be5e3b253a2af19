-- texts of this session, merged by a program of it (wip/gen/pack.py)
import Derived.Test.YthipjoioicmcnaaKFnTable15
import Derived.Test.YthipjoioicmcnaaKFnTable6
import Derived.Test.YthipjoioicmcnaaKFnTable12
import Derived.Test.YthipjoioicmcnaaKFnTable7
import Derived.Test.YthipjoioicmcnaaKFnTable11
import Derived.Test.YthipjoioicmcnaaKFnTable13
import Derived.Test.YthipjoioicmcnaaKFnTable2
import Derived.Test.YthipjoioicmcnaaKFnTable9
import Derived.Test.YthipjoioicmcnaaKFnTable5
import Derived.Test.YthipjoioicmcnaaKFnTable14
import Derived.Test.YthipjoioicmcnaaKFnTable8
import Derived.ProofKit
import Derived.WalkKit
import Derived.Deep.Slices
import Derived.OpenShut
import Derived.ChangeVars
import Derived.ChangeOld
import Derived.Below
import Derived.Test.YthipjoioicmcnaaKFnTable1
import Derived.Test.YthipjoioicmcnaaRows
import Derived.ShutString
set_option linter.unusedVariables false
set_option linter.unusedSimpArgs false
set_option maxHeartbeats 80000000
set_option maxRecDepth 100000
namespace Go.Proofs.Ythipjoioicmcnaa.Pure
open Go.RowKit Go.Proofs.Ythipjoioicmcnaa.G Go.Proofs.YthipjoioicmcnaaW.PrintWords Go.Proofs.YthipjoioicmcnaaW.PrintLast Go.Proofs.YthipjoioicmcnaaW.PrintMore
def fz (ws:List Int) (v:Nat) (s:Int):Prop:=s=0∨(1≤rd ws (v:Int)∧rd ws (v:Int)≤8)∧s=((2 ^ (rd ws (v:Int)).toNat:Nat):Int)
structure fzR (ws:List Int) (row:List Int):Prop where
 len:row.length=8
 at_:∀ v:Nat,v < 8→fz ws v (rd row (v:Int))
def fzs (ws:List Int) (R:List (List Int)):Prop:=∀ p:Nat,p < R.length→fzR ws (R.getD p [])
theorem aDC {ws:List Int} {v:Nat} {a b:Int} (ha:fz ws v a) (hb:fz ws v b):fz ws v (Go.bits .or .i64 a b):=by
 have h8:∀ n:Nat,n≤8→2 ^ n < 2 ^ 62:=fun n h=>Nat.pow_lt_pow_right (by decide) (by omega)
 have h0:(0:Nat) < 2 ^ 62:=by decide
 rcases ha with rfl | ⟨h1,rfl⟩
 ·rcases hb with rfl | ⟨h2,rfl⟩
  ·exact Or.inl (by decide +kernel)
  ·refine Or.inr ⟨h2,?_⟩
   have:=pV 0 (2 ^ (rd ws (v:Int)).toNat) h0 (h8 _ (by omega))
   rw [Nat.zero_or] at this
   exact this
 ·refine Or.inr ⟨h1,?_⟩
  rcases hb with rfl | ⟨h2,rfl⟩
  ·have:=pV (2 ^ (rd ws (v:Int)).toNat) 0 (h8 _ (by omega)) h0
   rw [Nat.or_zero] at this
   exact this
  ·have:=pV (2 ^ (rd ws (v:Int)).toNat) (2 ^ (rd ws (v:Int)).toNat) (h8 _ (by omega)) (h8 _ (by omega))
   rw [Nat.or_self] at this
   exact this
theorem vN {ws:List Int} {R:List (List Int)} {row:List Int} (h:fzs ws R) (hr:fzR ws row):fzs ws (R ++ [row]):=by
 intro p hp
 rw [List.length_append,List.length_singleton] at hp
 rw [List.getD_eq_getElem?_getD]
 by_cases c:p < R.length
 ·rw [List.getElem?_append_left c,← List.getD_eq_getElem?_getD]
  exact h p c
 ·rw [List.getElem?_append_right (by omega),show p - R.length=0 by omega]
  exact hr
theorem uX (w:Int) (h:1≤w∧w≤8):Ev (fun k=>aH.f k w) ((2 ^ w.toNat:Nat):Int):=by
 obtain ⟨n,rfl⟩:=Int.eq_ofNat_of_zero_le (show 0≤w by omega)
 exact lH n (fun k hk=>by rw [kO n (by omega) k hk,Int.toNat_natCast];norm_cast)
theorem aAY {x:bN} {p:Nat} (h:p < (np x).length):rd (np x) (p:Int)∈np x:=by
 rw [dP,dM _ p _ h]
 exact List.getElem_mem h
theorem yP:∀ n:Fin 9,∀ w:Fin 9,1≤n.val→1≤w.val→Int.tmod (wrap64 (Int.tdiv ((2 ^ n.val:Nat):Int) ((2 ^ w.val:Nat):Int))) 2=1→n=w:=by decide +kernel
section
variable (l:List bN) (hT:fT l=true) (ws:List Int) (hv:∀ j:Nat,j < l.length→(aC l (j:Int)).f0=1→rd ws (aC l (j:Int)).f2=(aC l (j:Int)).f1) (hq:∀ j:Nat,j < l.length→qu (aC l (j:Int)).f0=true→rd ws (aC l (j:Int)).f2=(aC l (j:Int)).f4) (e:List Int) (he:e.length=8) (hE:kH ws e)
include hT hE he
theorem aEV (R:List (List Int)) (hR:R.length=l.length) (hZ:fzs ws R):∀ d v:Nat,v + d=8→Ev (fun k=>aN.l3 k l e R (v:Int)) true:=by
 have hp:=fH hT
 have hl8:=gU hT
 have hw:wrap64 ((l.length:Int) - 1)=((l.length - 1:Nat):Int):=by rw [iB (by omega) (by omega)];omega
 have hr:=hZ (l.length - 1) (by omega)
 have hlen:(eB R ((l.length - 1:Nat):Int)).length=8:=hr.len
 intro d
 induction d with
 | zero =>
  intro v hv
  obtain rfl:v=8:=by omega
  refine bB ?_
  simp only [aN.l3,if_neg (show ¬ ((8:Nat):Int) < 8 by decide)]
  exact bA _
 | succ d ih =>
  intro v hv
  have e3:=ih (v + 1) (by omega)
  have hs:fz ws v (rd (eB R ((l.length - 1:Nat):Int)) (v:Int)):=hr.at_ v (by omega)
  have inner:∀ d w:Nat,w + d=9→1≤w→Ev (fun k=>aN.l4 k l e R (v:Int) (w:Int)) true:=by
   intro d
   induction d with
   | zero =>
    intro w hw9 _
    obtain rfl:w=9:=by omega
    refine bB ?_
    simp only [aN.l4,if_neg (show ¬ ((9:Nat):Int)≤8 by decide),eH v (show v < 4611686018427387904 by omega)]
    exact e3
   | succ d ih2 =>
    intro w hw9 hw1
    have e4:=ih2 (w + 1) (by omega) (by omega)
    refine bB ?_
    simp only [aN.l4,if_pos (show (w:Int)≤8 by omega),hw,if_pos (show (0:Int)≤((l.length - 1:Nat):Int) by omega),if_pos (show ((l.length - 1:Nat):Int) < (R.length:Int) by omega),if_pos (show 0≤(v:Int) by omega),hlen,if_pos (show (v:Int) < ((8:Nat):Int) by omega)]
    refine bI (uX (w:Int) (by omega)) ?_
    have h0:¬ ((2 ^ (w:Int).toNat:Nat):Int)=0:=by have:=Nat.two_pow_pos (w:Int).toNat;omega
    simp only [if_neg h0,eH w (show w < 4611686018427387904 by omega)]
    by_cases c:Int.tmod (wrap64 (Int.tdiv (rd (eB R ((l.length - 1:Nat):Int)) (v:Int)) ((2 ^ (w:Int).toNat:Nat):Int))) 2=1
    ·simp only [if_pos c,he,if_pos (show (v:Int) < ((8:Nat):Int) by omega)]
     have hok:Ev (fun k=>bV.f k (w:Int) (rd e (v:Int))) true:=by
      have h1:=kS w (by omega) (by omega) (rd e (v:Int))
      have h2:gQ w (rd e (v:Int))=true:=by
       rcases hs with h | ⟨h,h3⟩
       ·rw [h,Int.zero_tdiv] at c
        exact absurd c (by decide +kernel)
       ·obtain ⟨n,hn⟩:=Int.eq_ofNat_of_zero_le (show 0≤rd ws (v:Int) by omega)
        rw [hn] at h h3
        rw [h3,Int.toNat_natCast,Int.toNat_natCast] at c
        have:=yP ⟨n,by omega⟩ ⟨w,by omega⟩ (by show 1≤n;omega) hw1 c
        have hnw:n=w:=congrArg Fin.val this
        have h5:=hE v (by omega)
        rw [hn,hnw] at h5
        unfold lE at h5
        rw [Int.toNat_natCast] at h5
        exact decide_eq_true h5
      rw [h2] at h1
      exact h1
     refine bI hok ?_
     simp only [if_true]
     exact e4
    ·simp only [if_neg c]
     exact e4
  refine bB ?_
  simp only [aN.l3,if_pos (show (v:Int) < 8 by omega)]
  exact inner 8 1 (by omega) (by omega)
end
section
variable (l:List bN) (hT:fT l=true) (ws:List Int) (hv:∀ j:Nat,j < l.length→(aC l (j:Int)).f0=1→rd ws (aC l (j:Int)).f2=(aC l (j:Int)).f1) (hq:∀ j:Nat,j < l.length→qu (aC l (j:Int)).f0=true→rd ws (aC l (j:Int)).f2=(aC l (j:Int)).f4) (e:List Int) (he:e.length=8) (hE:kH ws e)
include hT hv hq
theorem aEQ (R:List (List Int)) (i:Nat) (hi:i < l.length) (hR:R.length=i) (hZ:fzs ws R) (X:Bool) (hX:∀ row,fzR ws row→Ev (fun k=>aN.l0 k l e (R ++ [row]) ((i + 1:Nat):Int)) X) :
  ∀ d v:Nat,v + d=8→∀ row:List Int,row.length=v→(∀ u:Nat,u < v→fz ws u (rd row (u:Int)))→Ev (fun k=>aN.l1 k l e R (i:Int) row (np (aC l (i:Int))) (v:Int) (aC l (i:Int)).f0 (aC l (i:Int)).f1 (aC l (i:Int)).f2 (aC l (i:Int)).f3 (aC l (i:Int)).f4 (aC l (i:Int)).f5) X:=by
 have hl8:=gU hT
 have hpp:=dV l hT i hi
 have hnp:(np (aC l (i:Int))).length≤3:=by
  rcases iU (aC l (i:Int)) with ⟨e,_⟩ | ⟨e,_⟩ | ⟨e,_⟩ | ⟨e,_⟩ <;> rw [e] <;> simp
 intro d
 induction d with
 | zero =>
  intro v h8 row hl hz
  obtain rfl:v=8:=by omega
  refine bB ?_
  simp only [aN.l1,if_neg (show ¬ ((8:Nat):Int) < 8 by decide),if_pos (show R.length < 5864062014805 by omega),eH i (show i < 4611686018427387904 by omega)]
  exact hX row ⟨hl,hz⟩
 | succ d ih =>
  intro v h8 row hl hz
  have next:∀ s,fz ws v s→Ev (fun k=>aN.l1 k l e R (i:Int) (row ++ [s]) (np (aC l (i:Int))) ((v + 1:Nat):Int) (aC l (i:Int)).f0 (aC l (i:Int)).f1 (aC l (i:Int)).f2 (aC l (i:Int)).f3 (aC l (i:Int)).f4 (aC l (i:Int)).f5) X:=fun s hs=>ih (v + 1) (by omega) _ (by simp [hl]) (fun u hu=>by
   rcases Nat.lt_succ_iff_lt_or_eq.1 hu with h|rfl
   ·rw [vA row s (u:Int) (by omega) (by omega)]
    exact hz u h
   ·rw [← hl,pM,hl]
    exact hs)
  have hlr:row.length < 17592186044416:=by omega
  have j5:∀ s b,fz ws v s→(b=true→qu (aC l (i:Int)).f0=true∧(aC l (i:Int)).f2=(v:Int))→Ev (fun k=>aN.j5 k l e R (i:Int) row (np (aC l (i:Int))) (v:Int) s b (aC l (i:Int)).f0 (aC l (i:Int)).f1 (aC l (i:Int)).f2 (aC l (i:Int)).f3 (aC l (i:Int)).f4 (aC l (i:Int)).f5) X:=fun s b hs hb=>by
   refine bB ?_
   cases b with
   | false =>
    simp only [aN.j5,Bool.false_eq_true,if_false,if_pos hlr,eH v (show v < 4611686018427387904 by omega)]
    exact next s hs
   | true =>
    obtain ⟨b1,b2⟩:=hb rfl
    have hz0:fz ws v 0:=Or.inl rfl
    by_cases c:s=0
    ·simp only [aN.j5,if_true,if_pos c,if_pos hlr,eH v (show v < 4611686018427387904 by omega)]
     exact next 0 hz0
    ·simp only [aN.j5,if_true,if_neg c]
     have hqi:=kC l hT i hi b1
     have hw:=hq i hi b1
     rw [b2] at hw
     refine bI (uX _ hqi.2.1) ?_
     rcases hs with h | ⟨_,h⟩
     ·exact absurd h c
     ·rw [hw] at h
      simp only [if_pos h,if_pos hlr,eH v (show v < 4611686018427387904 by omega)]
      exact next 0 hz0
  have l2:∀ d j:Nat,j + d=(np (aC l (i:Int))).length→∀ s,fz ws v s→Ev (fun k=>aN.l2 k l e R (i:Int) row (np (aC l (i:Int))) (v:Int) s (j:Int) (aC l (i:Int)).f0 (aC l (i:Int)).f1 (aC l (i:Int)).f2 (aC l (i:Int)).f3 (aC l (i:Int)).f4 (aC l (i:Int)).f5) X:=by
   intro d
   induction d with
   | zero =>
    intro j hj s hs
    refine bB ?_
    simp only [aN.l2,if_neg (show ¬ (j:Int) < ((np (aC l (i:Int))).length:Int) by omega),zQ,Option.bind_some]
    by_cases c:qu (aC l (i:Int)).f0=true
    ·simp only [if_pos c]
     exact j5 s _ hs (fun h=>⟨c,beq_iff_eq.1 h⟩)
    ·simp only [if_neg c]
     exact j5 s false hs (fun h=>by cases h)
   | succ d ih2 =>
    intro j hj s hs
    have hm:=aAY (x:=aC l (i:Int)) (p:=j) (by omega)
    have hb:=hpp _ hm
    obtain ⟨p,hp⟩:=Int.eq_ofNat_of_zero_le hb.1
    have hrow:=hZ p (by omega)
    have hlen:(eB R (rd (np (aC l (i:Int))) (j:Int))).length=8:=by rw [hp];exact hrow.len
    have hz2:fz ws v (rd (eB R (rd (np (aC l (i:Int))) (j:Int))) (v:Int)):=by rw [hp];exact hrow.at_ v (by omega)
    have e2:=ih2 (j + 1) (by omega) _ (aDC hs hz2)
    refine bB ?_
    simp only [aN.l2,if_pos (show (j:Int) < ((np (aC l (i:Int))).length:Int) by omega),if_pos (show 0≤(j:Int) by omega),if_pos hb.1,if_pos (show rd (np (aC l (i:Int))) (j:Int) < (R.length:Int) by omega),if_pos (show (0:Int)≤(v:Int) by omega),hlen,if_pos (show (v:Int) < ((8:Nat):Int) by omega),eH j (show j < 4611686018427387904 by omega)]
    exact e2
  have j2:∀ b,(b=true→(aC l (i:Int)).f0=1∧(aC l (i:Int)).f2=(v:Int))→Ev (fun k=>aN.j2 k l e R (i:Int) row (np (aC l (i:Int))) (v:Int) 0 b (aC l (i:Int)).f0 (aC l (i:Int)).f1 (aC l (i:Int)).f2 (aC l (i:Int)).f3 (aC l (i:Int)).f4 (aC l (i:Int)).f5) X:=fun b hb=>by
   have j3:∀ s,fz ws v s→Ev (fun k=>aN.j3 k l e R (i:Int) row (np (aC l (i:Int))) (v:Int) s (aC l (i:Int)).f0 (aC l (i:Int)).f1 (aC l (i:Int)).f2 (aC l (i:Int)).f3 (aC l (i:Int)).f4 (aC l (i:Int)).f5) X:=fun s hs=>bB (by simp only [aN.j3];exact l2 (np (aC l (i:Int))).length 0 (by omega) s hs)
   refine bB ?_
   cases b with
   | false =>
    simp only [aN.j2,Bool.false_eq_true,if_false]
    exact j3 0 (Or.inl rfl)
   | true =>
    obtain ⟨b1,b2⟩:=hb rfl
    have hw:=hv i hi b1
    rw [b2] at hw
    have hn:=yU l hT i hi
    simp only [aN.j2,if_true]
    refine bI (uX _ hn) ?_
    exact j3 _ (Or.inr ⟨by rw [hw];exact hn,by rw [hw]⟩)
  refine bB ?_
  by_cases c:(aC l (i:Int)).f0=1
  ·simp only [aN.l1,if_pos (show (v:Int) < 8 by omega),if_pos c]
   exact j2 _ (fun h=>⟨c,beq_iff_eq.1 h⟩)
  ·simp only [aN.l1,if_pos (show (v:Int) < 8 by omega),if_neg c]
   exact j2 false (fun h=>by cases h)
include hE he
theorem yG:Ev (fun k=>aN.f k l e) true:=by
 have hl8:=gU hT
 have main:∀ d i,i + d=l.length→∀ R:List (List Int),R.length=i→fzs ws R→Ev (fun k=>aN.l0 k l e R (i:Int)) true:=by
  intro d
  induction d with
  | zero =>
   intro i hi R hR hZ
   refine bB ?_
   simp only [aN.l0,if_neg (show ¬ (i:Int) < (l.length:Int) by omega)]
   exact aEV l hT ws e he hE R (by omega) hZ 8 0 (by omega)
  | succ d ih =>
   intro i hi R hR hZ
   refine bB ?_
   simp only [aN.l0,if_pos (show (i:Int) < (l.length:Int) by omega),if_pos (show 0≤(i:Int) by omega)]
   refine bI (oP _) ?_
   exact aEQ l hT ws hv hq e R i (by omega) hR hZ true (fun row hr=>ih (i + 1) (by omega) _ (by simp [hR]) (vN hZ hr)) 8 0 (by omega) [] rfl (fun u hu=>by omega)
 exact main l.length 0 (by omega) [] rfl (fun p hp=>by simp at hp)
end
theorem aDT (φ:Int→Int) (x:bN):nB (mv φ x)=nB x:=by
 unfold nB
 by_cases c:x.f0=19∨x.f0=20
 ·have h:(mv φ x).f4=x.f4:=by
   have hq:np x=[x.f3]:=by unfold np parts;rw [if_pos (Or.inr (Or.inr ((iZ _).2 c)))]
   unfold mv
   rw [hq]
   simp
  rw [if_pos (show (mv φ x).f0=19∨(mv φ x).f0=20 from c),if_pos c,h]
 ·rw [if_neg (show ¬ ((mv φ x).f0=19∨(mv φ x).f0=20) from c),if_neg c]
theorem xG {l r:List bN} {pl:List Int} (V:zJ l l.length r pl):qB r≤qB l:=by
 have h:∀ i:Nat,∃ p:Nat,i < r.length→p < l.length∧rd pl (p:Int)=(i:Int)∧nB (aC r (i:Int))=nB (aC l (p:Int)):=fun i=>by
  by_cases c:i < r.length
  ·obtain ⟨p,h1,_,h3,h4⟩:=V.of i c
   exact ⟨p,fun _=>⟨h1,h3,by rw [h4,aDT]⟩⟩
  ·exact ⟨0,fun h=>absurd h c⟩
 obtain ⟨g,hg⟩:=Classical.axiomOfChoice h
 have hnd:((List.range r.length).map g).Nodup:=by
  show List.Pairwise (· ≠ ·) _
  rw [List.pairwise_map]
  refine List.Pairwise.imp_of_mem (fun {a b} ha hb hab e=>?_) (List.nodup_range (n:=r.length))
  have h1:=hg a (List.mem_range.1 ha)
  have h2:=hg b (List.mem_range.1 hb)
  rw [e,h2.2.1] at h1
  exact hab (by omega)
 have e1:qB r=(((List.range r.length).map g).map fun p:Nat=>nB (aC l (p:Int))).sum:=by
  unfold qB
  congr 1
  rw [List.map_map]
  refine List.ext_getElem (by simp) (fun i h1 h2=>?_)
  rw [List.length_map] at h1
  rw [List.getElem_map,List.getElem_map,List.getElem_range]
  show _=nB (aC l ((g i:Nat):Int))
  rw [← (hg i h1).2.2,iG,dM r i _ h1]
 rw [e1,jD (fun p:Nat=>nB (aC l (p:Int))) l.length _ (fun j hj=>by
  obtain ⟨i,hi,rfl⟩:=List.mem_map.1 hj
  exact (hg i (List.mem_range.1 hi)).1),vX]
 refine tT l.length (fun j _=>?_)
 have:=Nat.mul_le_mul_right (nB (aC l (j:Int))) (List.nodup_iff_count.1 hnd j)
 rw [Nat.one_mul] at this
 exact this
theorem wY (l:List bN) (hT:fT l=true) (ws:List Int) (hv:∀ j:Nat,j < l.length→cW false (gR l) (j:Int)=true→(aC l (j:Int)).f0=1→rd ws (aC l (j:Int)).f2=(aC l (j:Int)).f1) (hq:∀ j:Nat,j < l.length→cW false (gR l) (j:Int)=true→qu (aC l (j:Int)).f0=true→rd ws (aC l (j:Int)).f2=(aC l (j:Int)).f4)
  (hB:qB l≤12) (e:List Int) (he:e.length=8) (hE:kH ws e) (v:Int) (hA:∀ p pl,fT p=true→zJ l l.length p pl→Ev (fun k=>eX.f k p e ((p.length:Int) - 1)) v):Ev (fun k=>cS.f k l e) (v,true):=by
 have hl8:=gU hT
 obtain ⟨p,pl,ep,hTp,V⟩:=oB l hT
 have hp8:=gU hTp
 have hpp:=fH hTp
 have hBp:qB p≤12:=Nat.le_trans (xG V) hB
 have hfit:Ev (fun k=>aN.f k p e) true:=yG p hTp ws (fun j hj h=>by
  obtain ⟨c,h1,h2,_,h4⟩:=V.of j hj
  rw [h4] at h ⊢
  exact hv c h1 h2 h) (fun j hj h=>by
  obtain ⟨c,h1,h2,_,h4⟩:=V.of j hj
  have h5:(mv (rd pl) (aC l (c:Int))).f4=(aC l (c:Int)).f4:=by
   rw [h4] at h
   have h6:qu (aC l (c:Int)).f0=true:=h
   have hn:np (aC l (c:Int))=[(aC l (c:Int)).f3]:=by unfold np parts;rw [if_pos (Or.inr (Or.inr h6))]
   unfold mv
   rw [hn]
   simp
  rw [h4] at h ⊢
  rw [h5]
  exact hq c h1 h2 h) e he hE
 have hwp:wrap64 ((p.length:Int) - 1)=(p.length:Int) - 1:=iB (by omega) (by omega)
 have sums:∀ i,i≤p.length→((p.take i).map nB).sum≤qB p:=fun i hi=>by
  have:qB p=((p.take i).map nB).sum + ((p.drop i).map nB).sum:=by
   unfold qB
   rw [← List.sum_append,← List.map_append,List.take_append_drop]
  omega
 have main:∀ d i,i + d=p.length→Ev (fun k=>cS.l0 k e p ((((p.take i).map nB).sum:Nat):Int) (i:Int)) (v,true):=by
  intro d
  induction d with
  | zero =>
   intro i hi
   obtain rfl:i=p.length:=by omega
   have hs:=sums p.length (Nat.le_refl _)
   refine bB ?_
   simp only [cS.l0,if_neg (show ¬ (p.length:Int) < (p.length:Int) by omega),if_neg (show ¬ ((((p.take p.length).map nB).sum:Nat):Int) > 12 by omega)]
   refine bI hfit ?_
   simp only [if_true,Option.bind_some,List.nil_append,List.length_nil,he,if_pos (show 0 + 8 < 17592186044416 by decide),hwp]
   exact bI (hA p pl hTp V) (bA _)
  | succ d ih =>
   intro i hi
   have e1:=ih (i + 1) (by omega)
   have hs:=sums (i + 1) (by omega)
   have hx:p[i]=aC p (i:Int):=by rw [iG,dM p i _ (by omega)]
   rw [List.take_succ_eq_append_getElem (by omega),List.map_append,List.sum_append,hx] at e1 hs
   simp only [List.map_cons,List.map_nil,List.sum_cons,List.sum_nil,Nat.add_zero] at e1 hs
   refine bB ?_
   simp only [cS.l0,if_pos (show (i:Int) < (p.length:Int) by omega),if_pos (show 0≤(i:Int) by omega),zQ,Option.bind_some,eH i (show i < 4611686018427387904 by omega)]
   by_cases c:qu (aC p (i:Int)).f0=true
   ·have hn:((nB (aC p (i:Int)):Nat):Int)=(aC p (i:Int)).f4:=by
     have:=kC p hTp i (by omega) c
     unfold nB
     rw [if_pos ((iZ _).1 c)]
     omega
    simp only [if_pos c]
    rw [← hn,iB (by omega) (by omega),← Int.natCast_add]
    exact e1
   ·have hn:nB (aC p (i:Int))=0:=by
     unfold nB
     rw [if_neg (fun h=>c ((iZ _).2 h))]
    rw [hn,Nat.add_zero] at e1
    simp only [if_neg c]
    exact e1
 unfold cS.f
 refine bI (a:=true) (by rw [← hT];exact oM l (by omega)) ?_
 simp only [if_true]
 refine bB ?_
 simp only [cS.j0,he,if_neg (show ¬ (((8:Nat):Int) != 8)=true by decide)]
 exact bI ep (main p.length 0 (by omega))
theorem aBW {l:List bN} (S:lO l) {q:List eE} (Q:pD l q):kX q q.length 0=((sm (fun j=>if rQ l (gR l) j then nB (aC l (j:Int)) else 0) l.length:Nat):Int):=by
 have hT:=S.tm
 rw [wP q q.length 0 (by omega),List.drop_zero]
 have e:(q.map fun x=>x.f2)=(qs l (kN l)).map fun j:Nat=>(aC l (j:Int)).f4:=by
  have:=congrArg (List.map Prod.snd) Q.map
  rw [List.map_map,List.map_map] at this
  exact this
 rw [e]
 have h1:∀ V:List Nat,(∀ j∈V,j < l.length∧qu (aC l (j:Int)).f0=true)→(V.map fun j:Nat=>(aC l (j:Int)).f4).sum=(((V.map fun j:Nat=>nB (aC l (j:Int))).sum:Nat):Int):=by
  intro V
  induction V with
  | nil=>intro _;rfl
  | cons a V ih =>
   intro h
   have ha:=h a (List.mem_cons_self ..)
   have hq:=kC l hT a ha.1 ha.2
   have hn:((nB (aC l (a:Int)):Nat):Int)=(aC l (a:Int)).f4:=by
    unfold nB
    rw [if_pos ((iZ _).1 ha.2)]
    omega
   rw [List.map_cons,List.sum_cons,List.map_cons,List.sum_cons,ih (fun j hj=>h j (List.mem_cons_of_mem _ hj)),Int.natCast_add,hn]
 rw [h1 _ (fun j hj=>⟨((Q.mem j).1 hj).1,((Q.mem j).1 hj).2.2⟩),jD (fun j:Nat=>nB (aC l (j:Int))) l.length _ (fun j hj=>((Q.mem j).1 hj).1)]
 congr 1
 refine zT l.length (fun j hj=>?_)
 by_cases c:rQ l (gR l) j
 ·have h2:=List.nodup_iff_count.1 Q.nd j
  have h3:=List.count_pos_iff.2 ((Q.mem j).2 ⟨hj,c⟩)
  rw [if_pos c,show (qs l (kN l)).count j=1 from by omega,Nat.one_mul]
 ·rw [if_neg c,List.count_eq_zero.2 (fun h=>c ((Q.mem j).1 h).2),Nat.zero_mul]
theorem yX {l:List bN} (h:Ev (fun k=>cN.f k l) true) (S:lO l) {q:List eE} (Q:pD l q) (h8:kX q q.length 0≤8):Ev (fun k=>dK.f k l) (kX q q.length 0):=by
  have hT:=S.tm
  have hl8:=gU hT
  have hM:(gR l).length=l.length:=by rw [iT,fF]
  have hsum:=aBW S Q
  generalize hf:(fun j=>if rQ l (gR l) j then nB (aC l (j:Int)) else 0)=f at hsum
  have mono:∀ d i,i + d=l.length→sm f i≤sm f l.length:=by
    intro d
    induction d with
    | zero => intro i hi; obtain rfl : i = l.length := by omega
              exact Nat.le_refl _
    | succ d ih=>intro i hi;have:=ih (i + 1) (by omega);simp only [sm] at this;omega
  have main:∀ d i,i + d=l.length→Ev (fun k=>dK.l0 k l (gR l) ((sm f i:Nat):Int) (i:Int)) (kX q q.length 0):=by
    intro d
    induction d with
    | zero =>
      intro i hi
      obtain rfl:i=l.length:=by omega
      refine bB ?_
      simp only [dK.l0,if_neg (show ¬ (l.length:Int) < (l.length:Int) by omega),hsum]
      exact bA _
    | succ d ih =>
      intro i hi
      have e1:=ih (i + 1) (by omega)
      have hm:=mono d (i + 1) (by omega)
      simp only [sm] at e1 hm
      have hfi:f i=if rQ l (gR l) i then nB (aC l (i:Int)) else 0:=by rw [← hf]
      refine bB ?_
      simp only [dK.l0,if_pos (show (i:Int) < (l.length:Int) by omega),if_pos (show 0≤(i:Int) by omega),if_pos (show (i:Int) < ((gR l).length:Int) by omega),zQ,Option.bind_some,eH i (show i < 4611686018427387904 by omega)]
      by_cases c:cW false (gR l) (i:Int)=true
      · simp only [if_pos c]
        by_cases c2:qu (aC l (i:Int)).f0=true
        · rw [if_pos (show rQ l (gR l) i from ⟨c,c2⟩)] at hfi
          have hn:((nB (aC l (i:Int)):Nat):Int)=(aC l (i:Int)).f4:=by
            have:=kC l hT i (by omega) c2
            unfold nB
            rw [if_pos ((iZ _).1 c2)]
            omega
          simp only [if_pos c2]
          rw [← hn,← hfi,iB (by omega) (by omega),← Int.natCast_add]
          exact e1
        · rw [if_neg (fun h:rQ l (gR l) i=>c2 h.2)] at hfi
          rw [hfi,Nat.add_zero] at e1
          simp only [if_neg c2]
          exact e1
      · rw [if_neg (fun h:rQ l (gR l) i=>c h.1)] at hfi
        rw [hfi,Nat.add_zero] at e1
        simp only [if_neg c]
        exact e1
  unfold dK.f
  refine bI h ?_
  simp only [if_true]
  exact bI (pA l hT (by omega)) (main l.length 0 (by omega))
def oH (l:List Int):Int:=l.foldl (fun a b=>2 * a + b) 0
def iA (b:Int):Bool:=b == 0 || b == 1
theorem lG (l:List Int) (b:Int):oH (l ++ [b])=2 * oH l + b:=by simp [oH,List.foldl_append]
theorem nU (l:List Int) (i:Nat) (hi:i≤l.length) (h:∀ j,j < i→iA (l.getD j 0)=true):0≤oH (l.take i)∧oH (l.take i) < 2 ^ i:=by
 induction i with
 | zero=>simp [oH]
 | succ i ih =>
  obtain ⟨h0,h1⟩:=ih (by omega) (fun j hj=>h j (by omega))
  have hb:=h i (by omega)
  simp only [iA,Bool.or_eq_true,beq_iff_eq] at hb
  rw [iR l i 0 (by omega),lG,Int.pow_succ]
  omega
theorem rF (l:List Int) (p:Int→Bool):(List.range l.length).all (fun i=>p (l.getD i 0))=l.all p:=by
 rw [Bool.eq_iff_iff,List.all_eq_true,List.all_eq_true]
 constructor
 ·intro h x hx
  obtain ⟨i,hi,rfl⟩:=List.getElem_of_mem hx
  have:=h i (by simpa using hi)
  rwa [dM l i 0 hi] at this
 ·intro h i hi
  have hi':i < l.length:=by simpa using hi
  rw [dM l i 0 hi']
  exact h _ (List.getElem_mem hi')
theorem mU (l:List Int) (hl:l.length≤60):∀ k,l.length < k→cO.f k l=some (if l.all iA then (oH l,true) else (0,false)):=by
 intro k hk
 unfold cO.f
 rw [← rF l iA]
 have h:=lB (fun k i=>cO.l0 k (oH (l.take i)) l (l.length:Int) (i:Int)) l.length (fun i=>iA (l.getD i 0)) (oH l,true) (0,false) ?_ ?_ ?_ k hk
 ·simpa [oH] using h
 ·intro k i hi hp hb
  simp only [iA,Bool.or_eq_true,beq_iff_eq] at hb
  obtain ⟨h0,h1⟩:=nU l i (by omega) hp
  have hw:=tO (n:=i) (by omega)
  simp only [cO.l0]
  rw [if_pos (by omega),if_pos (by omega),if_pos (by omega),dP,eH i (by omega),iR l i 0 hi,lG,iB (n:=2 * oH (l.take i)) (by omega) (by omega),iB (by omega) (by omega)]
  rcases hb with hb|hb
  ·rw [if_pos hb]
  ·rw [if_neg (by omega),if_pos hb]
 ·intro k i hi hp hb
  simp only [iA,Bool.or_eq_false_iff,beq_eq_false_iff_ne] at hb
  simp only [cO.l0]
  rw [if_pos (by omega),if_pos (by omega),if_pos (by omega),dP,if_neg hb.1,if_neg hb.2]
 ·intro k hp
  simp only [cO.l0]
  rw [if_neg (by omega),List.take_length]
def kJ (N:Int) (s:ByteArray) (l:List Int):Int:=if tok N s∧(l.length:Int)=N∧l.all iA then bt s (oH l) - 48 else -1
theorem rI {n:Nat} {l:List Bool} {x:Int} (h0:0≤x) (h1:x < l.length):bt (ones l) x=48∨bt (ones l) x=49:=by
 obtain ⟨i,rfl⟩:=Int.eq_ofNat_of_zero_le h0
 rw [pE l i (by omega)]
 unfold sgn
 split <;> simp
theorem kB (N:Int) (s:ByteArray) (l:List Int) (hs:s.size≤1099511627776):∀ k,s.size + 40 < k→dF.f k N s l=some (kJ N s l):=by
 intro k hk
 obtain ⟨k,rfl⟩:∃ m,k=m + 1:=⟨k - 1,by omega⟩
 unfold dF.f
 rw [kD N s hs (k + 1) (by omega),Option.bind_some]
 cases ht:tok N s with
 | false=>simp [dF.j0,kJ,ht]
 | true =>
  obtain ⟨n,t,rfl,hn,hl,rfl⟩:=qP ht
  rw [if_pos rfl]
  simp only [dF.j0]
  by_cases hln:(l.length:Int)=(n:Int)
  ·rw [if_neg (by simp [hln]),mU l (by omega) k (by omega),Option.bind_some]
   cases hb:l.all iA with
   | false=>simp [kJ,hb]
   | true =>
    have hbd:=nU l l.length (Nat.le_refl _) (fun j hj=>List.all_eq_true.1 hb _ (by rw [dM l j 0 hj];exact List.getElem_mem hj))
    rw [List.take_length] at hbd
    have h2:((t.length:Nat):Int)=2 ^ l.length:=by rw [hl,show l.length=n by omega];norm_cast
    have hd:=rI (n:=n) (l:=t) hbd.1 (by omega)
    simp only [if_true]
    rw [if_pos hbd.1,if_pos (by rw [iI];omega),kJ,if_pos ⟨ht,hln,hb⟩]
    congr 1
    omega
  ·rw [if_pos (by simpa using hln),kJ,if_neg (fun h=>hln h.2.1)]
theorem mM (N:Int) (s:ByteArray) (l:List Int) (hs:s.size≤1099511627776):∀ k,s.size + 40 < k→cL.f k N s l=some (kJ N s l):=by
 intro k hk
 obtain ⟨k,rfl⟩:∃ m,k=m + 1:=⟨k - 1,by omega⟩
 unfold cL.f
 rw [mK N s hs (k + 1) (by omega),Option.bind_some]
 cases ht:tok N s with
 | false=>simp [cL.j0,kJ,ht]
 | true =>
  obtain ⟨n,t,rfl,hn,hl,rfl⟩:=qP ht
  rw [if_pos rfl]
  simp only [cL.j0]
  by_cases hln:(l.length:Int)=(n:Int)
  ·rw [if_neg (by simp [hln])]
   have h:=lB (fun k i=>cL.l0 k l (oH (l.take i)) (i:Int) (n:Int) (ones t)) l.length (fun i=>iA (l.getD i 0)) (bt (ones t) (oH l) - 48) (-1) ?_ ?_ ?_ k (by omega)
   ·rw [rF] at h
    refine Eq.trans ?_ (h.trans ?_)
    ·simp [oH]
    ·congr 1
     rw [kJ]
     cases hb:l.all iA <;> simp [ht,hln]
   ·intro k i hi hp hb
    simp only [iA,Bool.or_eq_true,beq_iff_eq] at hb
    obtain ⟨h0,h1⟩:=nU l i (by omega) hp
    have hw:=tO (n:=i) (by omega)
    simp only [cL.l0,bD.f]
    rw [if_pos (by omega),if_pos (by omega),dP,if_pos (by omega),decide_eq_true (show l.getD i 0≤1 by omega),Option.bind_some,if_pos rfl,eH i (by omega),iR l i 0 hi,lG,iB (n:=2 * oH (l.take i)) (by omega) (by omega),iB (by omega) (by omega)]
   ·intro k i hi hp hb
    simp only [iA,Bool.or_eq_false_iff,beq_eq_false_iff_ne] at hb
    simp only [cL.l0,bD.f]
    rw [if_pos (by omega),if_pos (by omega),dP]
    by_cases h0:l.getD i 0 ≥ 0
    ·rw [if_pos h0,decide_eq_false (by omega)]
     simp
    ·rw [if_neg h0]
     simp
   ·intro k hp
    have hbd:=nU l l.length (Nat.le_refl _) hp
    rw [List.take_length] at hbd
    have h2:((t.length:Nat):Int)=2 ^ l.length:=by rw [hl,show l.length=n by omega];norm_cast
    have hd:=rI (n:=n) (l:=t) hbd.1 (by omega)
    simp only [cL.l0]
    rw [if_neg (by omega),List.take_length,if_pos hbd.1,if_pos (by rw [iI];omega),iB (n:=bt (ones t) (oH l)) (by omega) (by omega),iB (by omega) (by omega)]
  ·rw [if_pos (by simpa using hln),kJ,if_neg (fun h=>hln h.2.1)]
abbrev tV:List bN:=[⟨1,1,0,0,0,0⟩,⟨20,1,0,0,1,0⟩]
theorem oS:Ev (fun k=>cN.f k tV) true:=⟨200,fun k hk=>by
 obtain ⟨m,rfl⟩:∃ m,k=m + 200:=⟨k - 200,by omega⟩
 clear hk
 show cN.f (m + 200) tV=some true
 kernel_rfl⟩
theorem sH {l:List bN} (hn:l.length≤1048576) (h:Ev (fun k=>cN.f k l) true):lO l:=by
 obtain ⟨b,e,h2⟩:=sZ l hn
 exact h2 (nT e h)
theorem aCI (b:List Int) (hb:b.length≤1099511627776):∃ h,Ev (fun k=>dW.f k b) (b,0,h):=by
 have H:∀ d (i:Nat) h,i + d=b.length→∃ h',Ev (fun k=>dW.l0 k b h (i:Int)) (b,0,h'):=by
  intro d
  induction d with
  | zero =>
   intro i h hi
   refine ⟨h,bB ?_⟩
   simp only [dW.l0,if_neg (show ¬ (i:Int) < (b.length:Int) by omega)]
   exact bA _
  | succ d ih =>
   intro i h hi
   by_cases h4:(i:Int) < 4000
   ·obtain ⟨h',e⟩:=ih (i + 1) (Go.bits .and .i64 (wrap64 ((wrap64 ((wrap64 (h * 131)) + (wrap64 (rd b (i:Int))))) + 7)) 1073741823) (by omega)
    refine ⟨h',bB ?_⟩
    simp only [dW.l0,if_pos (show (i:Int) < (b.length:Int) by omega),if_pos h4,if_pos (show 0≤(i:Int) by omega),eH i (show i < 4611686018427387904 by omega)]
    exact e
   ·refine ⟨h,bB ?_⟩
    simp only [dW.l0,if_pos (show (i:Int) < (b.length:Int) by omega),if_neg h4]
    exact bA _
 exact H b.length 0 _ (by omega)
theorem yI (b:List Int) (hb:b.length≤1099511627776):∃ t,Ev (fun k=>fD.f k b) t∧Ev (fun k=>cN.f k t) true∧t.length≤80∧qB t≤8:=by
 obtain ⟨h0,en⟩:=aCI b hb
 obtain ⟨l',a,nx',bs',p,q,em,hp,hl,hq,hb0,hb1,hn0,hn1⟩:=zD b 4 (by decide) [] [] 0 8 0 h0 (yR hb) (by decide) (by decide) (by decide) (by decide) ⟨by simp,by simp⟩ (by simp) (by simp [mG])
 have hq0:qB ([]:List bN)=0:=rfl
 rw [hq0] at hq
 have hl2:l'.length≤1048576:=by simp [mG] at hl;omega
 have key:∃ t p2 q2,Ev (fun k=>eN.f k b 0 h0 8) (t,p2,q2)∧Ev (fun k=>cN.f k t) true∧t.length≤80∧qB t≤8:=by
  unfold eN.f
  by_cases c:(l'.length:Int) > 80
  ·refine ⟨tV,p,q,bI em ?_,oS,by decide,by decide⟩
   simp only [if_pos c]
   exact bA _
  obtain ⟨t,et,_⟩:=sZ l' hl2
  cases t with
  | true =>
   refine ⟨l',p,q,bI em ?_,et,by omega,by omega⟩
   simp only [if_neg c]
   refine bI et ?_
   simp only [if_true]
   exact bA _
  | false =>
   refine ⟨tV,p,q,bI em ?_,oS,by decide,by decide⟩
   simp only [if_neg c]
   refine bI et ?_
   simp only [Bool.false_eq_true,if_false]
   exact bA _
 obtain ⟨t,p2,q2,e2,h1,h2,h3⟩:=key
 refine ⟨t,?_,h1,h2,h3⟩
 unfold fD.f
 exact bI en (bI e2 (bA _))
theorem aCC {a:Int} (h:(Lit.int .u8 a).wf=true):0≤a∧a≤255:=by
 have hmin:IntKind.u8.min=0:=rfl
 have hmax:IntKind.u8.max=255:=rfl
 simp only [Lit.wf,Bool.and_eq_true,decide_eq_true_eq] at h
 omega
theorem aES (l:List Int) (hl:l.length≤1048576) (hw:∀ x∈l,(Lit.int .u8 x).wf=true) (i:Nat) (hi:i≤1000):∃ v,kU.f l (i:Int)=some v∧0≤v:=by
 unfold kU.f
 by_cases c:(i:Int) < (l.length:Int)
 ·rw [if_pos c,if_pos (by omega)]
  have:=aCC (hw _ (List.getElem_mem (show i < l.length by omega)))
  refine ⟨_,rfl,?_⟩
  rw [dP,dM l i _ (by omega),iB (by omega) (by omega)]
  exact this.1
 ·rw [if_neg c]
  refine ⟨_,rfl,Int.tmod_nonneg _ ?_⟩
  rw [iB (show -9223372036854775808≤(i:Int) * 7 by omega) (by omega),iB (by omega) (by omega)]
  omega
section
variable (b:List Int) (hl:b.length≤1048576) (hb:∀ x∈b,(Lit.int .u8 x).wf=true) (q:List eE) (r:List bN) (N:Int) (s:ByteArray) (X:Bool) (kk:Nat) (hkk:kk≤6)
include hl hb hkk
theorem ft3 (i:Nat) (hi:i < q.length) (w:Nat) (h8:w≤8) (hw:(aI q (i:Int)).f2=(w:Int)) (hv:0≤(aI q (i:Int)).f1∧(aI q (i:Int)).f1≤7) (env:List Int) (he:env.length=8) (P m:Nat) (hm:m + w≤12) (hq:q.length≤80)
  (K:∀ (bits:List Int) (x:Nat),bits.length=m + w→bits.all iA=true→x < 2 ^ w→oH bits=((P * 2 ^ w + x:Nat):Int)→Ev (fun k=>aX.l2 k b q r (kk:Int) bits (env.set (aI q (i:Int)).f1.toNat (x:Int)) ((i + 1:Nat):Int) N s) X) :
  ∀ d c,c + d=w→∀ (bits:List Int) (x:Nat),bits.length=m + c→bits.all iA=true→x < 2 ^ c→oH bits=((P * 2 ^ c + x:Nat):Int)→Ev (fun k=>aX.l3 k b q r (kk:Int) bits env (i:Int) (x:Int) (c:Int) N s) X:=by
 intro d
 induction d with
 | zero =>
  intro c hc bits x h1 h2 h3 h4
  obtain rfl:c=w:=by omega
  refine bB ?_
  simp only [aX.l3,if_pos (show 0≤(i:Int) by omega),if_pos (show (i:Int) < (q.length:Int) by omega),hw,if_neg (show ¬ (c:Int) < (c:Int) by omega),if_pos hv.1,he,if_pos (show (aI q (i:Int)).f1 < ((8:Nat):Int) by omega),eH i (show i < 4611686018427387904 by omega)]
  exact K bits x h1 h2 h3 h4
 | succ d ih =>
  intro c hc bits x h1 h2 h3 h4
  have hbl:bits.length < 17592186044416:=Nat.lt_of_le_of_lt (show bits.length≤12 by omega) (by decide)
  have hx:x < 256:=Nat.lt_of_lt_of_le h3 (Nat.le_trans (Nat.pow_le_pow_right (by decide) (show c≤8 by omega)) (by decide))
  obtain ⟨t,et,ht⟩:=aES b hl hb (kk * 20 + bits.length) (by omega)
  have hidx:wrap64 (wrap64 ((kk:Int) * 20) + (bits.length:Int))=((kk * 20 + bits.length:Nat):Int):=by
   rw [iB (n:=(kk:Int) * 20) (by omega) (by omega),iB (by omega) (by omega)]
   push_cast
   rfl
  obtain ⟨z,hz,hz2⟩:∃ z:Nat,Int.tmod t 2=(z:Int)∧z < 2:=by
   obtain ⟨t,rfl⟩:=Int.eq_ofNat_of_zero_le ht
   exact ⟨t % 2,rfl,Nat.mod_lt _ (by decide)⟩
  have e:=ih (c + 1) (by omega) (bits ++ [(z:Int)]) (2 * x + z) (by rw [List.length_append,List.length_singleton,h1];omega) (by
   rw [List.all_append,h2,Bool.true_and]
   rcases (show z=0∨z=1 by omega) with rfl|rfl <;> rfl) (by rw [Nat.pow_succ];omega) (by
   rw [lG,h4,Nat.pow_succ,← Nat.mul_assoc]
   generalize P * 2 ^ c=y
   omega)
  refine bB ?_
  simp only [aX.l3,if_pos (show 0≤(i:Int) by omega),if_pos (show (i:Int) < (q.length:Int) by omega),hw,if_pos (show (c:Int) < (w:Int) by omega),hidx,et,Option.bind_some,if_pos hbl,hz,eH c (show c < 4611686018427387904 by omega)]
  rw [iB (n:=2 * (x:Int)) (by omega) (by omega),iB (by omega) (by omega)]
  rw [show 2 * (x:Int) + (z:Int)=((2 * x + z:Nat):Int) from by push_cast;rfl]
  exact e
theorem ft2 (hw:∀ j:Nat,j < q.length→1≤(aI q (j:Int)).f2∧(aI q (j:Int)).f2≤8) (hv:∀ j:Nat,j < q.length→0≤(aI q (j:Int)).f1∧(aI q (j:Int)).f1≤7) (hq:q.length≤80) (n:Nat) (hn:n≤12) :
  ∀ d i,i + d=q.length→∀ a:Nat,kX q d i=(a:Int)→∀ (m:Nat) (bits:List Int) (env:List Int) (P:Nat),m + a=n→bits.length=m→bits.all iA=true→oH bits=(P:Int)→env.length=8 →
   (∀ (bits':List Int) (T:Nat),bits'.length=n→bits'.all iA=true→oH bits'=(T:Int)→T / 2 ^ a=P→Ev (fun k=>(cS.f k r (mF q T d i a env)).bind fun bt140=>(if bt140.2=true then ((dF.f k N s bits').bind fun t142=>(if t142=bt140.1 then (aX.l0 k b q r (wrap64 ((kk:Int) + 1)) N s) else (some false))) else (some false))) X) →
   Ev (fun k=>aX.l2 k b q r (kk:Int) bits env (i:Int) N s) X:=by
 intro d
 induction d with
 | zero =>
  intro i hi a ha m bits env P hm h1 h2 h3 he C
  obtain rfl:a=0:=by simp only [kX] at ha;omega
  obtain rfl:i=q.length:=by omega
  refine bB ?_
  simp only [aX.l2,if_neg (show ¬ (q.length:Int) < (q.length:Int) by omega)]
  exact C bits P (by omega) h2 h3 (by simp)
 | succ d ih =>
  intro i hi a ha m bits env P hm h1 h2 h3 he C
  have hwi:=hw i (by omega)
  have h5:=pX q hw d (i + 1) (by omega)
  simp only [kX] at ha
  obtain ⟨w,hw2⟩:=Int.eq_ofNat_of_zero_le (show 0≤(aI q (i:Int)).f2 by omega)
  obtain ⟨a',ha'⟩:=Int.eq_ofNat_of_zero_le h5
  obtain rfl:a=w + a':=by omega
  refine bB ?_
  simp only [aX.l2,if_pos (show (i:Int) < (q.length:Int) by omega)]
  refine ft3 b hl hb q r N s X kk hkk i (by omega) w (by omega) hw2 (hv i (by omega)) env he P m (by omega) hq (fun bits1 x g1 g2 g3 g4=>?_) w 0 (by omega) bits 0 (by omega) h2 (by simp) (by rw [h3];simp)
  refine ih (i + 1) (by omega) a' ha' (m + w) bits1 _ (P * 2 ^ w + x) (by omega) g1 g2 g4 (by rw [List.length_set];exact he) (fun bits' T t1 t2 t3 t4=>?_)
  have hT2:T / 2 ^ (w + a')=P:=by
   rw [Nat.add_comm,Nat.pow_add,← Nat.div_div_eq_div_mul,t4,Nat.mul_comm,Nat.mul_add_div (Nat.two_pow_pos w),Nat.div_eq_of_lt g3,Nat.add_zero]
  have C2:=C bits' T t1 t2 t3 hT2
  have e1:mF q T (d + 1) i (w + a') env=mF q T d (i + 1) a' (env.set (aI q (i:Int)).f1.toNat (x:Int)):=by
   simp only [mF,hw2,Int.toNat_natCast,Nat.add_sub_cancel_left,t4]
   have e2:((P * 2 ^ w + x:Nat):Int) % (2:Int) ^ w=(x:Int):=by
    rw [show (2:Int) ^ w=((2 ^ w:Nat):Int) from by norm_cast]
    norm_cast
    rw [Nat.mul_comm,Nat.mul_add_mod,Nat.mod_eq_of_lt g3]
   rw [e2]
  rw [e1] at C2
  exact C2
end
theorem ft1 (b:List Int) (q:List eE) (r:List bN) (N:Int) (s:ByteArray) (X:Bool) (kk:Nat) (e:Ev (fun k=>aX.l2 k b q r (kk:Int) [] (List.replicate 8 0) 0 N s) X):∀ d i:Nat,i + d=8→Ev (fun k=>aX.l1 k b q r (kk:Int) [] (List.replicate i 0) (i:Int) N s) X:=by
 intro d
 induction d with
 | zero =>
  intro i hi
  obtain rfl:i=8:=by omega
  refine bB ?_
  simp only [aX.l1,if_neg (show ¬ ((8:Nat):Int) < 8 by decide)]
  exact e
 | succ d ih =>
  intro i hi
  have h:=ih (i + 1) (by omega)
  rw [List.replicate_succ'] at h
  refine bB ?_
  simp only [aX.l1,if_pos (show (i:Int) < 8 by omega),List.length_replicate,if_pos (show i < 17592186044416 by omega),eH i (show i < 4611686018427387904 by omega)]
  exact h
theorem xH {q:List eE} {r:List bN} {ws:List Int} (ok:lQ q r ws) (e:List Int) (he:e.length=8) (hE:kH ws e):Ev (fun k=>cS.f k r e) (uQ r e,true):=by
 have hT:=ok.term
 have hp:=ok.plain
 refine wY r hT ws (fun j hj hm ho=>wS r _ ws r.length 0 ok.fits j (by omega) (by omega) (by rw [fK] at hm;exact hm) ho) (fun j hj _ h=>by rw [hp j hj] at h;cases h) ?_ e he hE _ (fun p pl hTp V=>?_)
 ·have:qB r=0:=by
   rw [vX]
   refine mT r.length (fun j hj=>?_)
   unfold nB
   rw [if_neg (fun h=>by have:=hp j hj;rw [(iZ _).2 h] at this;cases this)]
  omega
 ·rw [← tX hT hTp V e]
  have hpl:=gU hTp
  exact atS p hTp (by omega) e he (fun j hj=>by
   obtain ⟨c,h1,_,_,h4⟩:=V.of j hj
   rw [h4]
   exact hp c h1) (aCA p hTp)
theorem FnTable_pure:∀ (l0:List Int),(l0.length≤maxLen∧∀ x_∈l0,(Lit.int .u8 x_).wf=true)→∃ k,aX.f k l0=some true:=by
 intro b ⟨_,hb⟩
 refine tZ ?_
 unfold aX.f
 simp only [iV.f,Option.bind_some]
 by_cases c:(b.length:Int) > 1048576
 ·simp only [decide_eq_true c,if_true]
  exact bA _
 simp only [decide_eq_false c,Bool.false_eq_true,if_false]
 obtain ⟨t,et,es,ht,hB⟩:=yI b (by omega)
 have S:=sH (by omega) es
 obtain ⟨q,r,ws,ef,ok,hs,hq,hr,hN,Q,_⟩:=sC t es S
 have hK:=aCA r ok.term
 obtain ⟨n,hn⟩:=Int.eq_ofNat_of_zero_le (aAD ok)
 have hn8:n≤8:=by omega
 have htab:uI q r=((n:Int),ones (zW q r q.length 0 n (List.replicate 8 0)),true):=by
  unfold uI
  rw [if_pos ⟨aBV ok,by omega⟩,hn,Int.toNat_natCast,zE ok hK n]
 have hlen:=rZ q r q.length 0 n (List.replicate 8 0)
 have hsz:(ones (zW q r q.length 0 n (List.replicate 8 0))).size≤1099511627776:=by
  rw [iI,hlen]
  have:=aCY (n:=n) (by omega)
  omega
 have htok:=vU (n:=n) (by omega) hlen
 have hI:=aBR q r (by omega) (by omega) hK
 have hS:=aAU q r (by omega) (by omega) hK
 rw [htab] at hI hS
 refine bI et (bI ef (bI hI (bI hS ?_)))
 simp only [bne_self_eq_false,Bool.false_eq_true,if_false,Bool.not_true]
 refine bB ?_
 simp only [aX.j0,Bool.false_eq_true,if_false]
 refine bI (a:=true) (lH _ (fun k hk=>by rw [kD _ _ hsz k hk,htok])) ?_
 simp only [if_true]
 refine bI (yX es S Q (by omega)) ?_
 rw [hn]
 refine bB ?_
 simp only [aX.j1,bne_self_eq_false,Bool.false_eq_true,if_false]
 generalize hs2:ones (zW q r q.length 0 n (List.replicate 8 0))=s at *
 have main:∀ d kk:Nat,kk + d=6→Ev (fun k=>aX.l0 k b q r (kk:Int) (n:Int) s) true:=by
  intro d
  induction d with
  | zero =>
   intro kk hkk
   obtain rfl:kk=6:=by omega
   refine bB ?_
   simp only [aX.l0,if_neg (show ¬ ((6:Nat):Int) < 6 by decide)]
   refine bI (lH _ (fun k hk=>kB (n:Int) s [] hsz k hk)) (bI (lH _ (fun k hk=>mM (n:Int) s [] hsz k hk)) ?_)
   rw [beq_self_eq_true]
   exact bA _
  | succ d ih =>
   intro kk hkk
   have e:=ih (kk + 1) (by omega)
   refine bB ?_
   simp only [aX.l0,if_pos (show (kk:Int) < 6 by omega)]
   refine ft1 b q r (n:Int) s true kk ?_ 8 0 rfl
   refine ft2 b (by omega) hb q r (n:Int) s true kk (by omega) (sB ok) (fun j hj=>(ok.vars j hj).1) hq n (by omega) q.length 0 (by omega) n hn 0 [] _ 0 (by omega) rfl rfl rfl rfl (fun bits T h1 h2 h3 h4=>?_)
   have hbd:=nU bits bits.length (Nat.le_refl _) (fun j hj=>List.all_eq_true.1 h2 _ (by rw [dM bits j 0 hj];exact List.getElem_mem hj))
   rw [List.take_length,h3,h1] at hbd
   have hTn:T < 2 ^ n:=by exact_mod_cast hbd.2
   have hE:kH ws (mF q T q.length 0 n (List.replicate 8 0)):=vL q ws T q.length 0 (fun j _ h=>ok.vars j (by omega)) n _ rfl (nO ws)
   have hEl:(mF q T q.length 0 n (List.replicate 8 0)).length=8:=by rw [nN];rfl
   refine bI (xH ok _ hEl hE) ?_
   simp only [if_true]
   refine bI (lH _ (fun k hk=>kB (n:Int) s bits hsz k hk)) ?_
   have hval:kJ (n:Int) s bits=uQ r (mF q T q.length 0 n (List.replicate 8 0)):=by
    unfold kJ
    rw [if_pos ⟨htok,by rw [h1],h2⟩,h3,← hs2,pE _ T (by rw [hlen];exact hTn),dM _ T _ (by rw [hlen];exact hTn)]
    simp only [zW,List.getElem_map,List.getElem_range]
    have hbit:=ok.bit hK _ hEl hE
    unfold uQ at hbit ⊢
    rcases hbit with h|h <;> rw [h] <;> rfl
   simp only [hval,if_true,eH kk (show kk < 4611686018427387904 by omega)]
   exact e
 exact main 6 0 rfl
end Go.Proofs.Ythipjoioicmcnaa.Pure
namespace Go.Proofs.Ythipjoioicmcnaa.Open
open Go.Deep Go.ChangeShapes Go.WideShapes Go.RowKit Go.Proofs.YthipjoioicmcnaaW.PrintWords
def xL {α:Type} (P:Program) (t:TypeId) (d:Kd α) (ok:α→Prop):Prop :=
 ∀ (H:Type) (enc:TypeId × Value→H) (w:World) (base:Nat) (spare:Nat→Bool) (held:Bool) (fuel:Nat) (cs:List Value) (x:DataW H × List MemPlace),
  DataW.trod enc P w base spare held fuel t cs=some x→∃ a,d.K w a cs∧ok a
theorem uB {P:Program} {t:TypeId} {k:IntKind} (hu:P.underlying t=some (.int k)):xL P t (Kd.int k) (fun a=>(Lit.int k a).wf=true):=by
 intro H enc w base spare held fuel cs x h
 obtain ⟨n,rfl,_,hw⟩:=DataW.trod_int hu h
 exact ⟨n,rfl,hw⟩
theorem tL {α:Type} {p:Nat→α→Prop}:∀ n,(∀ i,i < n→∃ a,p i a)→∃ l:List α,l.length=n∧∀ i a,l[i]? = some a→p i a
 | 0,_=>⟨[],rfl,fun i a h=>by simp at h⟩
 | n + 1,h=>by
  obtain ⟨l,hl,hp⟩:=tL n (fun i hi=>h i (by omega))
  obtain ⟨a,ha⟩:=h n (by omega)
  refine ⟨l ++ [a],by simp [hl],fun i b hb=>?_⟩
  rw [List.getElem?_append] at hb
  split at hb
  ·exact hp i b hb
  ·rename_i hi
   have e:i=n:=by
    rcases Nat.lt_or_ge (i - l.length) 1 with h1|h1
    ·omega
    ·rw [List.getElem?_eq_none (by simpa using h1)] at hb
     cases hb
   subst e
   rw [hl,Nat.sub_self] at hb
   cases hb
   exact ha
theorem qK {α:Type} {P:Program} {t e:TypeId} {d:Kd α} {ok:α→Prop} (hu:P.underlying t=some (.slice e)) (hc:P.cellsOf e=d.sz) (h:xL P e d ok) :
  xL P t (Kd.slice e d) (fun l=>l.length≤maxLen∧∀ x∈l,ok x):=by
 intro H enc w base spare held fuel cs x hx
 rcases open_slice hu hx with ⟨rfl,rfl⟩ | ⟨a,len,cap,m,n,D,Pl,rfl,hb,hl,hm,hmm,rfl,hel⟩
 ·exact ⟨[],⟨none,0,rfl,Nat.le_refl _,rfl,by simp,fun h=>absurd h (by simp)⟩,by simp [maxLen],by simp⟩
 ·have hle:len≤m:=by rw [hmm];split <;> omega
  have hone:∀ i,i < len→∃ y:α,(∃ cs',w.cells? base (a.add (i * P.cellsOf e)) (P.cellsOf e)=some cs'∧d.K w y cs')∧ok y:=by
   intro i hi
   obtain ⟨cs',h1,h2⟩:=hel i (by omega)
   obtain ⟨y,hk,ho⟩:=h H enc w base spare held n cs' _ h2
   exact ⟨y,⟨cs',h1,hk⟩,ho⟩
  obtain ⟨l,hll,hp⟩:=tL len hone
  subst hll
  refine ⟨l,⟨some a,cap,rfl,hl,rfl,by simp only [maxLen] at hm;omega,fun _=>⟨a,rfl,fun j p hj=>?_⟩⟩,by omega,?_⟩
  ·obtain ⟨⟨cs',h1,hk⟩,_⟩:=hp j p hj
   refine ⟨cs',d.K_len hk,hk,fun i u hu=>?_⟩
   have hlt:i < cs'.length:=by
    rcases Nat.lt_or_ge i cs'.length with h'|h'
    ·exact h'
    ·rw [List.getElem?_eq_none h'] at hu;cases hu
   have hlen:=d.K_len hk
   obtain ⟨_,hlen2,hcell⟩:=World.cells?_some h1
   rw [hc] at hcell
   have:=hcell i (by omega)
   rw [hu] at this
   rw [← Addr.add_add]
   exact this.symm ▸ rfl
  ·intro x hx
   obtain ⟨i,hi,rfl⟩:=List.getElem_of_mem hx
   exact (hp i _ (List.getElem?_eq_getElem hi)).2
end Go.Proofs.Ythipjoioicmcnaa.Open
namespace Go.Proofs.Ythipjoioicmcnaa.fnTable
open Go.ChangeShapes Go.WideShapes Go.ChangeAt Go.RowKit Go.Proofs.Ythipjoioicmcnaa.Open Go.Proofs.Ythipjoioicmcnaa.G Go.Proofs.YthipjoioicmcnaaW.PrintWords
open Go.ChangeMaps (open_string shut_string)
theorem own:ownKnob Try.prog.godebug=none:=by kernel_rfl
theorem xS:laidOutB Try.prog=true:=by kernel_rfl
theorem aCJ (os:Os) (started:os.Started) (H:Type) (enc:TypeId × Value→H) :
  ReturnsInHanded {} Try.checked os 9 .any (Rows.fnTableSpec.pre6 enc Try.prog Try.f9 Rows.fnTableRow.domain false) (Rows.fnTableSpec.post enc Try.prog Try.f9 false true false false):=by
 refine returnsInHanded_of_change (C:=Try.checked) own started (by kernel_rfl) Try.func9
  (ChangeSpec.witness6 (enc:=enc) (C:=Try.checked) false ⟨#[],#[.slice none 0 0],[]⟩ 8 (by kernel_rfl) (by kernel_rfl) (by kernel_rfl) (by kernel_rfl)) ?_
 intro W base args ds gs before hval0 hW hcnd _
 have hval:∀ (j:Nat) t v,Try.f9.params[j]? = some t→args[j]? = some v→Value.okWide Try.prog W .any base t v:=hval0
 have hW':=hW
 obtain ⟨p,q,hA0,hV,rfl,hfz,hnd⟩:=hW
 have hA:DataW.TrodAll enc Try.prog W 0 (fun _=>true) true Try.f9.params.toList args.toList ds p:=hA0
 rw [Try.params9] at hA hval
 obtain ⟨v0,vs0,d0,ds0,p0,q0,hargs,rfl,rfl,h0,r0⟩:=trodAll_cons hA
 obtain ⟨rfl,rfl,rfl⟩:=trodAll_nil r0
 obtain rfl:args=#[v0]:=by cases args;simp_all
 obtain ⟨rfl,rfl⟩:=trodVars_none hV
 have k0:=h0
 have lt0:∀ x∈p0,x.block < W.heap.size:=by obtain ⟨m,hm⟩:=k0;exact DataW.trod_lt m _ _ _ hm
 obtain ⟨fu0,hf0⟩:=h0
 obtain ⟨a0,len0,cap0,rfl⟩:=okWide_slice Try.underlying22 (hval 0 22 v0 rfl rfl)
 obtain ⟨l0,hk0,ok0⟩:=(qK (d:=(Kd.int .u8)) Try.underlying22 (by kernel_rfl) (uB Try.underlying5)) _ enc W 0 _ true fu0 _ _ hf0
 obtain ⟨A0,c0,hcs0,hc0,hr0⟩:=hk0
 simp [Value.cells] at hcs0
 obtain ⟨rfl,rfl,rfl⟩:=hcs0
 clear hA0 hval0
 obtain ⟨k,hk⟩:=Pure.FnTable_pure l0 ok0
 refine (aX.calls k _ _ l0 true W hr0 hc0 rfl hk).mono fun e W' ⟨he,bel0⟩=>?_
 have bel:Below W.heap.size W W':=bel0
 subst he
 exact ⟨_,rfl,_,_,_,[],_,[],hW',trodAll_mk1 (shut_bool Try.underlying4 _),(trodAll_cons_mk (Below.trod xS (by kernel_rfl) (of_decide_eq_true (by kernel_rfl)) k0 bel lt0) trodAll_mk0),rfl,bel.frame _,fun h=>by cases h⟩
theorem over:Rows.fnTableRow.holds Try.pinned (OpenSpec.ofChange Rows.fnTableSpec) :=
 OpenClaim.holds_of_wide 9 Try.f9 rfl rfl rfl rfl rfl rfl rfl ⟨rfl,rfl,rfl,rfl,rfl⟩ rfl rfl rfl rfl rfl (by kernel_rfl) Try.func9 (by kernel_rfl)
  (of_decide_eq_true (by kernel_rfl)) (by unfold Func.isWrapper;first|(rw [if_pos (by decide +kernel)];kernel_rfl)|(rw [if_neg (by decide +kernel)];exact ⟨rfl,rfl⟩))
  (fun os started H enc _=>aCJ os started H enc)
theorem proved:Rows.FnTableSaid:=over
end Go.Proofs.Ythipjoioicmcnaa.fnTable
namespace Go.Proofs.Ythipjoioicmcnaa
/-- The given statement. -/
theorem fnTable_holds:Rows.FnTableSaid:=fnTable.proved
#print axioms fnTable_holds
end Go.Proofs.Ythipjoioicmcnaa
