-- texts of this session, merged by a program of it (wip/gen/pack.py)
import Derived.Test.YthipjoioicmcnaaGreatKFnIdleQuant14
import Derived.Test.YthipjoioicmcnaaGreatKFnIdleQuant2
import Derived.Test.YthipjoioicmcnaaGreatKFnIdleQuant6
import Derived.Test.YthipjoioicmcnaaGreatKFnIdleQuant3
import Derived.Test.YthipjoioicmcnaaGreatKFnIdleQuant11
import Derived.Test.YthipjoioicmcnaaGreatKFnIdleQuant10
import Derived.Test.YthipjoioicmcnaaGreatKFnIdleQuant13
import Derived.Test.YthipjoioicmcnaaGreatKFnIdleQuant9
import Derived.Test.YthipjoioicmcnaaGreatKFnIdleQuant8
import Derived.Test.YthipjoioicmcnaaGreatKFnIdleQuant12
import Derived.ProofKit
import Derived.WalkKit
import Derived.Deep.Slices
import Derived.OpenShut
import Derived.ChangeVars
import Derived.ChangeOld
import Derived.Below
import Derived.Test.YthipjoioicmcnaaGreatKFnIdleQuant1
import Derived.Test.YthipjoioicmcnaaGreatRows
import Derived.ShutString
set_option linter.unusedVariables false
set_option linter.unusedSimpArgs false
set_option maxHeartbeats 80000000
set_option maxRecDepth 100000
namespace Go.Proofs.YthipjoioicmcnaaGreat.Pure
open Go.RowKit Go.Proofs.YthipjoioicmcnaaGreat.G Go.Proofs.YthipjoioicmcnaaGreatW.PrintWords Go.Proofs.YthipjoioicmcnaaGreatW.PrintLast Go.Proofs.YthipjoioicmcnaaGreatW.PrintMore
theorem envOk_set {ws xs:List Int} (hx:xs.length=8) (h:envOk ws xs) (K:Int) (hK:0≤K) (v:Int) (hv:inW (rd ws K) v):envOk ws (xs.set K.toNat v):=by
 intro j hj
 rw [rd_nat (xs.set _ _),List.getD_eq_getElem?_getD,List.getElem?_set]
 by_cases e:K.toNat=j
 ·rw [if_pos e,if_pos (by omega),show ((j:Nat):Int)=K from by omega]
  exact hv
 ·rw [if_neg e,← List.getD_eq_getElem?_getD,← rd_nat]
  exact h j hj
theorem rtF_bit (v:Int) (h:v=0∨v=1):v=b01 (v == 1):=by rcases h with rfl|rfl <;> rfl
theorem holdsL (q:List S31) (l:List S52) (ws:List Int) (hq:q.length≤1048576) (i:Nat) (hi:i < q.length) (w:Nat) (h8:w≤8) (hw2:(rd_T31 q (i:Int)).f2=(w:Int)) (hv:0≤(rd_T31 q (i:Int)).f1∧(rd_T31 q (i:Int)).f1≤7) (hws:rd ws (rd_T31 q (i:Int)).f1=(rd_T31 q (i:Int)).f2) (xs:List Int) (P:Nat→Bool)
  (hf:∀ x:Nat,x < 2 ^ w→∀ zs:List Int,zs.length=8→envOk ws zs→eqv q (i + 1) zs (xs.set (rd_T31 q (i:Int)).f1.toNat (x:Int))→∃ ys,ys.length=8∧envOk ws ys∧eqv q (i + 1) ys zs∧Ev (fun k=>spec_l05Holds.f k q l zs ((i + 1:Nat):Int)) (b01 (P x),ys)) :
  ∀ e x:Nat,x + e=2 ^ w→∀ (zs:List Int) (A B r:Bool),zs.length=8→envOk ws zs→eqv q i zs xs→((rd_T31 q (i:Int)).f0=true→(r=true↔(A=true∧∀ y,x≤y→y < 2 ^ w→P y=true)))→((rd_T31 q (i:Int)).f0=false→(r=true↔(B=true∨∃ y,x≤y∧y < 2 ^ w∧P y=true))) →
   ∃ ys,ys.length=8∧envOk ws ys∧eqv q i ys xs∧Ev (fun k=>spec_l05Holds.l0 k q l zs (i:Int) (b01 A) (b01 B) (x:Int)) (b01 r,ys):=by
 have hW:2 ^ w≤256:=Nat.le_trans (Nat.pow_le_pow_right (by decide) h8) (by decide)
 have hpw:Ev (fun k=>spec_l01Pow2.f k (rd_T31 q (i:Int)).f2) ((2 ^ w:Nat):Int):=by
  rw [hw2]
  exact ev_ge w (fun k hk=>by rw [pow2_eq w (by omega) k hk];norm_cast)
 intro e
 induction e with
 | zero =>
  intro x hx zs A B r hz hze hzq h1 h2
  refine ⟨zs,hz,hze,hzq,ev_succ ?_⟩
  simp only [spec_l05Holds.l0,if_pos (show 0≤(i:Int) by omega),if_pos (show (i:Int) < (q.length:Int) by omega)]
  refine ev_bind hpw ?_
  simp only [if_neg (show ¬ (x:Int) < ((2 ^ w:Nat):Int) by omega)]
  cases hF:(rd_T31 q (i:Int)).f0 with
  | true =>
   have:r=A:=by
    have h:=h1 hF
    cases A with
    | true=>exact h.2 ⟨rfl,fun y h1 h2=>by omega⟩
    | false =>
     cases r with
     | false=>rfl
     | true=>exact absurd (h.1 rfl).1 (by decide)
   simp only [if_true]
   rw [this]
   exact ev_some _
  | false =>
   have:r=B:=by
    have h:=h2 hF
    cases B with
    | true=>exact h.2 (Or.inl rfl)
    | false =>
     cases r with
     | false=>rfl
     | true =>
      rcases h.1 rfl with h | ⟨y,h3,h4,_⟩
      ·cases h
      ·omega
   simp only [Bool.false_eq_true,if_false]
   rw [this]
   exact ev_some _
 | succ e ih =>
  intro x hx zs A B r hz hze hzq h1 h2
  have hin:inW (rd ws (rd_T31 q (i:Int)).f1) (x:Int):=by
   rw [hws,hw2]
   refine ⟨Int.natCast_nonneg _,?_⟩
   rw [Int.toNat_natCast]
   have:x < 2 ^ w:=by omega
   exact_mod_cast this
  obtain ⟨ys,hy,hye,hyq,ev⟩:=hf x (by omega) (zs.set (rd_T31 q (i:Int)).f1.toNat (x:Int)) (by rw [List.length_set];exact hz) (envOk_set hz hze _ hv.1 _ hin) (eqv_set hzq _)
  have hyq2:eqv q i ys xs:=eqv_trans (eqv_drop hi hyq) hzq
  have key:∃ us,us.length=8∧envOk ws us∧eqv q i us xs∧Ev (fun k=>spec_l05Holds.l0 k q l ys (i:Int) (b01 (A && P x)) (b01 (B || P x)) ((x + 1:Nat):Int)) (b01 r,us):=by
   refine ih (x + 1) (by omega) ys _ _ r hy hye hyq2 (fun hF=>?_) (fun hF=>?_)
   ·rw [h1 hF,Bool.and_eq_true]
    constructor
    ·rintro ⟨h3,h4⟩
     exact ⟨⟨h3,h4 x (Nat.le_refl _) (by omega)⟩,fun y h5 h6=>h4 y (by omega) h6⟩
    ·rintro ⟨⟨h3,h4⟩,h5⟩
     refine ⟨h3,fun y h6 h7=>?_⟩
     rcases Nat.eq_or_lt_of_le h6 with rfl|h8
     ·exact h4
     ·exact h5 y (by omega) h7
   ·rw [h2 hF,Bool.or_eq_true]
    constructor
    ·rintro (h3 | ⟨y,h4,h5,h6⟩)
     ·exact Or.inl (Or.inl h3)
     ·rcases Nat.eq_or_lt_of_le h4 with rfl|h8
      ·exact Or.inl (Or.inr h6)
      ·exact Or.inr ⟨y,by omega,h5,h6⟩
    ·rintro ((h3|h3) | ⟨y,h4,h5,h6⟩)
     ·exact Or.inl h3
     ·exact Or.inr ⟨x,Nat.le_refl _,by omega,h3⟩
     ·exact Or.inr ⟨y,by omega,h5,h6⟩
  obtain ⟨us,hu,hue,huq,ev2⟩:=key
  refine ⟨us,hu,hue,huq,ev_succ ?_⟩
  simp only [spec_l05Holds.l0,if_pos (show 0≤(i:Int) by omega),if_pos (show (i:Int) < (q.length:Int) by omega)]
  refine ev_bind hpw ?_
  simp only [if_pos (show (x:Int) < ((2 ^ w:Nat):Int) by omega),if_pos hv.1,if_pos (show (rd_T31 q (i:Int)).f1 < (zs.length:Int) by omega),w64s i (show i < 4611686018427387904 by omega),w64s x (show x < 4611686018427387904 by omega)]
  refine ev_bind ev ?_
  cases hP:P x with
  | true =>
   rw [hP,Bool.and_true,Bool.or_true] at ev2
   simp only [if_pos (show b01 true=1 from rfl)]
   exact ev2
  | false =>
   rw [hP,Bool.and_false,Bool.or_false] at ev2
   simp only [if_neg (show ¬ b01 false=1 by decide)]
   exact ev2
theorem holdsS (q:List S31) (l:List S52) (ws:List Int) (ok:FrOk q l ws) (hq:q.length≤1048576) (hl:l.length≤1048576) (hK:∀ j:Nat,j < l.length → -9223372036854775808≤(rd_T52 l (j:Int)).f2∧(rd_T52 l (j:Int)).f2≤9223372036854775807) :
  ∀ d i,i + d=q.length→∀ (b:Nat),swF q d i=(b:Int)→∀ xs:List Int,xs.length=8→envOk ws xs→∃ ys,ys.length=8∧envOk ws ys∧eqv q i ys xs∧Ev (fun k=>spec_l05Holds.f k q l xs (i:Int)) (b01 (dec (rwF q d i) (lfF q l d i b xs)),ys):=by
 have hpos:=tm_pos ok.term
 have hwl:wrap64 ((l.length:Int) - 1)=(l.length:Int) - 1:=by unfold wrap64;omega
 intro d
 induction d with
 | zero =>
  intro i hi b hb xs hx he
  refine ⟨xs,hx,he,eqv_refl q i xs,ev_succ ?_⟩
  simp only [spec_l05Holds.f,if_pos (show (i:Int)=(q.length:Int) by omega),hwl]
  obtain rfl:b=0:=by simp only [swF] at hb;omega
  have e:b01 (dec (rwF q 0 i) (lfF q l 0 i 0 xs))=rtF l xs:=by
   simp only [rwF,dec,lfF,tiF]
   exact (rtF_bit _ (ok.bit hK xs hx he)).symm
  rw [e]
  exact ev_bind (atS l ok.term hl xs hx ok.plain hK) (ev_some _)
 | succ d ih =>
  intro i hi b hb xs hx he
  obtain ⟨h2,h1,hws⟩:=ok.vars i (by omega)
  have h3:=sw_pos q (fr_w ok) d (i + 1) (by omega)
  simp only [swF] at hb
  obtain ⟨w,hw2⟩:=Int.eq_ofNat_of_zero_le (show 0≤(rd_T31 q (i:Int)).f2 by omega)
  obtain ⟨m,hm⟩:=Int.eq_ofNat_of_zero_le h3
  obtain rfl:b=w + m:=by omega
  have hslc:∀ x,x < 2 ^ w→slc (lfF q l (d + 1) i (w + m) xs) m x=lfF q l d (i + 1) m (xs.set (rd_T31 q (i:Int)).f1.toNat (x:Int)):=fun x hx=>lfF_slc q (fr_w ok) l d i hi w m hw2 hm xs x hx
  have key:=holdsL q l ws hq i (by omega) w (by omega) hw2 h2 hws xs (fun x=>dec (rwF q d (i + 1)) (lfF q l d (i + 1) m (xs.set (rd_T31 q (i:Int)).f1.toNat (x:Int)))) (fun x hx zs hz hze hzq=>by
   obtain ⟨ys,g1,g2,g3,g4⟩:=ih (i + 1) (by omega) m hm zs hz hze
   rw [lfF_eqv (by omega) hzq] at g4
   exact ⟨ys,g1,g2,g3,g4⟩) (2 ^ w) 0 (by omega) xs true false (dec (rwF q (d + 1) i) (lfF q l (d + 1) i (w + m) xs)) hx he (eqv_refl q i xs)
   (fun hF=>by
    simp only [rwF]
    rw [hF,hw2,Int.toNat_natCast,dec_all _ m w _ (lfF_length q l (d + 1) i (w + m) xs)]
    constructor
    ·intro h
     exact ⟨by trivial,fun y _ hy=>by rw [← hslc y hy];exact h y hy⟩
    ·rintro ⟨_,h⟩ y hy
     rw [hslc y hy]
     exact h y (Nat.zero_le _) hy)
   (fun hF=>by
    simp only [rwF]
    rw [hF,hw2,Int.toNat_natCast,dec_any _ m w _ (lfF_length q l (d + 1) i (w + m) xs)]
    constructor
    ·rintro ⟨y,hy,h⟩
     exact Or.inr ⟨y,Nat.zero_le _,hy,by rw [← hslc y hy];exact h⟩
    ·rintro (h | ⟨y,_,hy,h⟩)
     ·cases h
     ·exact ⟨y,hy,by rw [hslc y hy];exact h⟩)
  obtain ⟨ys,g1,g2,g3,g4⟩:=key
  refine ⟨ys,g1,g2,g3,ev_succ ?_⟩
  simp only [spec_l05Holds.f,if_neg (show ¬ (i:Int)=(q.length:Int) by omega)]
  exact g4
theorem rwF_length (q:List S31) (hw:∀ j:Nat,j < q.length→1≤(rd_T31 q (j:Int)).f2∧(rd_T31 q (j:Int)).f2≤8):∀ d i,i + d=q.length→((rwF q d i).length:Int)=swF q d i:=by
 intro d
 induction d with
 | zero=>intro i _;rfl
 | succ d ih =>
  intro i hi
  have h:=ih (i + 1) (by omega)
  have h1:=hw i (by omega)
  simp only [rwF,swF,List.length_append,List.length_replicate]
  omega
theorem rowsI (q:List S31) (hq:q.length≤1048576) (hw:∀ j:Nat,j < q.length→1≤(rd_T31 q (j:Int)).f2∧(rd_T31 q (j:Int)).f2≤8) (h12:swF q q.length 0≤12):Ev (fun k=>impl_Rows.f k q) (rwF q q.length 0):=by
 obtain ⟨v,v0,e1,e2,hv⟩:=bits_ev q hq
 have hs:=ev_one e1 (bits_sum q hq hw)
 subst hs
 unfold impl_Rows.f
 simp only [Option.bind_some]
 refine ev_bind (f:=fun k t104=>if t104 < 0 then (some ([]:List Bool)) else (impl_Rows.l0 k [] q (q.length:Int) 0)) e2 ?_
 simp only [if_neg (show ¬ swF q q.length 0 > 12 by omega),if_neg (show ¬ swF q q.length 0 < 0 by omega)]
 have inner:∀ (i:Nat) (r:List Bool) (w:Nat),w≤8→(∀ acc:List Bool,acc.length≤8 * (i + 1)→Ev (fun k=>impl_Rows.l0 k acc q (q.length:Int) (wrap64 ((i:Int) + 1))) (acc ++ r))→∀ (a:Bool) (x y:Int),∀ e j,j + e=w→∀ acc:List Bool,acc.length≤8 * i + j→i≤1048576→Ev (fun k=>impl_Rows.l1 k acc q (q.length:Int) (i:Int) (w:Int) (j:Int) a x y) (acc ++ (List.replicate e a ++ r)):=by
  intro i r w h8 hn a x y e
  induction e with
  | zero =>
   intro j hj acc ha hi2
   refine ev_succ ?_
   simp only [impl_Rows.l1,if_neg (show ¬ (j:Int) < (w:Int) by omega)]
   exact hn acc (by omega)
  | succ e ih =>
   intro j hj acc ha hi2
   refine ev_succ ?_
   simp only [impl_Rows.l1,if_pos (show (j:Int) < (w:Int) by omega),if_pos (show acc.length < 140737488355328 by omega),w64s j (show j < 4611686018427387904 by omega)]
   have:=ih (j + 1) (by omega) (acc ++ [a]) (by simp;omega) hi2
   rw [List.append_assoc] at this
   exact this
 have main:∀ d i,i + d=q.length→∀ acc:List Bool,acc.length≤8 * i→Ev (fun k=>impl_Rows.l0 k acc q (q.length:Int) (i:Int)) (acc ++ rwF q d i):=by
  intro d
  induction d with
  | zero =>
   intro i hi acc ha
   refine ev_succ ?_
   simp only [impl_Rows.l0,if_neg (show ¬ (i:Int) < (q.length:Int) by omega),rwF,List.append_nil]
   exact ev_some _
  | succ d ih =>
   intro i hi acc ha
   have h1:=hw i (by omega)
   obtain ⟨w,hw2⟩:=Int.eq_ofNat_of_zero_le (show 0≤(rd_T31 q (i:Int)).f2 by omega)
   refine ev_succ ?_
   simp only [impl_Rows.l0,if_pos (show (i:Int) < (q.length:Int) by omega),if_pos (show 0≤(i:Int) by omega),rwF]
   rw [hw2,Int.toNat_natCast]
   exact inner i (rwF q d (i + 1)) w (by omega) (fun acc ha=>by rw [w64s i (by omega)];exact ih (i + 1) (by omega) acc (by omega)) _ _ _ w 0 (by omega) acc (by omega) (by omega)
 have:=main q.length 0 (by omega) [] (by simp)
 rw [List.nil_append] at this
 exact this
theorem xsF_eqv (q:List S31) (n:Nat):∀ t,eqv q 0 (xsF q n t) (List.replicate 8 0):=by
 intro t
 induction t with
 | zero=>exact eqv_refl _ _ _
 | succ t ih=>exact eqv_trans (tiF_back q t q.length 0 (by omega) n _) ih
theorem sg_ones {q:List S31} {l:List S52} {ws:List Int} (ok:FrOk q l ws) (hK:∀ j:Nat,j < l.length → -9223372036854775808≤(rd_T52 l (j:Int)).f2∧(rd_T52 l (j:Int)).f2≤9223372036854775807) (n:Nat):strOfNums (sgF q l n)=ones (lfF q l q.length 0 n (List.replicate 8 0)):=by
 rw [← strOfNums_ones]
 congr 1
 unfold sgF lfF
 rw [List.map_map]
 refine List.map_congr_left fun t _=>?_
 have e:rootF q l n t=rtF l (tiF q t q.length 0 n (List.replicate 8 0)):=by
  unfold rootF rtF
  simp only [xsF]
  rw [tiF_eqv q t q.length 0 (by omega) n _ _ (xsF_eqv q n t)]
 have hb:=ok.rootBit hK n t
 rw [e] at hb ⊢
 show 48 + rtF l _=sgn (rtF l _ == 1)
 rcases hb with h|h <;> rw [h] <;> rfl
noncomputable def holF (q:List S31) (l:List S52):Int × Bool:=if frF q l=true∧swF q q.length 0≤12 then (b01 (dec (rwF q q.length 0) (lfF q l q.length 0 (swF q q.length 0).toNat (List.replicate 8 0))),true) else (0,false)
theorem holdsI (q:List S31) (l:List S52) (hq:q.length≤1048576) (hl:l.length≤1048576) (hK:∀ j:Nat,j < l.length → -9223372036854775808≤(rd_T52 l (j:Int)).f2∧(rd_T52 l (j:Int)).f2≤9223372036854775807):Ev (fun k=>impl_HoldsFront.f k q l) (holF q l):=by
 unfold impl_HoldsFront.f
 refine ev_bind (f:=fun k bt101=>if bt101.2.2=true then ((impl_Rows.f k q).bind fun t105=>((impl_Decide.f k t105 bt101.1 bt101.2.1).bind fun bt108=>(some (bt108.1,bt108.2)))) else (some (0,false))) (tableI q l hq hl hK) ?_
 unfold tabF holF
 by_cases h:frF q l=true∧swF q q.length 0≤12
 ·rw [if_pos h,if_pos h]
  obtain ⟨ws,ok⟩:=fr_ok h.1
  have hs:=fr_sum ok
  obtain ⟨n,hn⟩:=Int.eq_ofNat_of_zero_le hs
  have hrl:=rwF_length q (fr_w ok) q.length 0 (by omega)
  simp only [if_true]
  refine ev_bind (f:=fun k t105=>(impl_Decide.f k t105 (swF q q.length 0) (strOfNums (sgF q l (swF q q.length 0).toNat))).bind fun bt108=>(some (bt108.1,bt108.2))) (rowsI q hq (fr_w ok) h.2) ?_
  rw [sg_ones ok hK,hn,Int.toNat_natCast]
  have hlen:=lfF_length q l q.length 0 n (List.replicate 8 0)
  have hN:2 ^ n≤4096:=pow12 (by omega)
  generalize lfF q l q.length 0 n (List.replicate 8 0)=L at hlen
  have hd:Ev (fun k=>impl_Decide.f k (rwF q q.length 0) (n:Int) (ones L)) (decT (rwF q q.length 0) (n:Int) (ones L)):=ev_ge _ (impl_Decide_eq _ _ _ (by rw [ones_size];omega))
  refine ev_bind (f:=fun k bt108=>some (bt108.1,bt108.2)) hd ?_
  unfold decT
  rw [tok_ones (by omega) hlen,show (((rwF q q.length 0).length:Int) == (n:Int))=true from beq_iff_eq.2 (by omega),flags_ones]
  exact ev_some _
 ·rw [if_neg h,if_neg h]
  simp only [Bool.false_eq_true,if_false]
  exact ev_some _
theorem holdsFS (q:List S31) (l:List S52) (hq:q.length≤1048576) (hl:l.length≤1048576) (hK:∀ j:Nat,j < l.length → -9223372036854775808≤(rd_T52 l (j:Int)).f2∧(rd_T52 l (j:Int)).f2≤9223372036854775807):Ev (fun k=>spec_HoldsFront.f k q l) (holF q l):=by
 have stop:Ev (fun k=>spec_HoldsFront.j0 k q l true) (0,false):=ev_succ (by simp only [spec_HoldsFront.j0,if_true];exact ev_some _)
 unfold spec_HoldsFront.f
 refine ev_bind (f:=fun k t101=>if t101=true then ((spec_l05Bits.f k q).bind fun t102=>(spec_HoldsFront.j0 k q l (decide (t102 > 12)))) else (spec_HoldsFront.j0 k q l true)) (frontS q l hq hl) ?_
 unfold holF
 cases hf:frF q l with
 | false =>
  simp only [Bool.false_eq_true,if_false,false_and]
  exact stop
 | true =>
  obtain ⟨ws,ok⟩:=fr_ok hf
  simp only [if_true,true_and]
  refine ev_bind (f:=fun k t102=>spec_HoldsFront.j0 k q l (decide (t102 > 12))) (bits_sum q hq (fr_w ok)) ?_
  have hs:=fr_sum ok
  obtain ⟨n,hn⟩:=Int.eq_ofNat_of_zero_le hs
  by_cases h12:swF q q.length 0≤12
  ·rw [if_pos h12,decide_eq_false (show ¬ swF q q.length 0 > 12 by omega)]
   refine ev_succ ?_
   simp only [spec_HoldsFront.j0,Bool.false_eq_true,if_false]
   refine ev_bind (f:=fun k t103=>(spec_l05Holds.f k q l t103 0).bind fun bt106=>(some (bt106.1,true))) zeros_ev ?_
   obtain ⟨ys,_,_,_,e⟩:=holdsS q l ws ok hq hl hK q.length 0 (by omega) n hn (List.replicate 8 0) (by simp) (envOk_zero ws)
   rw [hn,Int.toNat_natCast]
   exact ev_bind (f:=fun k bt106=>some (bt106.1,true)) e (ev_some _)
  ·rw [if_neg h12,decide_eq_true (show swF q q.length 0 > 12 by omega)]
   exact stop
def HQ (l:List S52):List S31→List Int→Prop
 | [],xs=>(rtF l xs == 1)=true
 | x :: q,xs=>if x.f0=true then ∀ y:Nat,y < 2 ^ x.f2.toNat→HQ l q (xs.set x.f1.toNat (y:Int)) else ∃ y:Nat,y < 2 ^ x.f2.toNat∧HQ l q (xs.set x.f1.toNat (y:Int))
theorem hq_dec (q:List S31) (l:List S52) (hw:∀ j:Nat,j < q.length→1≤(rd_T31 q (j:Int)).f2∧(rd_T31 q (j:Int)).f2≤8):∀ d i,i + d=q.length→∀ b:Nat,swF q d i=(b:Int)→∀ xs,(dec (rwF q d i) (lfF q l d i b xs)=true↔HQ l (q.drop i) xs):=by
 intro d
 induction d with
 | zero =>
  intro i hi b hb xs
  obtain rfl:b=0:=by simp only [swF] at hb;omega
  rw [List.drop_of_length_le (by omega)]
  simp only [rwF,dec,lfF,tiF,HQ]
  exact Iff.rfl
 | succ d ih =>
  intro i hi b hb xs
  have h1:=hw i (by omega)
  have h3:=sw_pos q hw d (i + 1) (by omega)
  simp only [swF] at hb
  obtain ⟨w,hw2⟩:=Int.eq_ofNat_of_zero_le (show 0≤(rd_T31 q (i:Int)).f2 by omega)
  obtain ⟨m,hm⟩:=Int.eq_ofNat_of_zero_le h3
  obtain rfl:b=w + m:=by omega
  have hslc:∀ x,x < 2 ^ w→slc (lfF q l (d + 1) i (w + m) xs) m x=lfF q l d (i + 1) m (xs.set (rd_T31 q (i:Int)).f1.toNat (x:Int)):=fun x hx=>lfF_slc q hw l d i hi w m hw2 hm xs x hx
  have hx:q[i]=rd_T31 q (i:Int):=by rw [rdQ_nat,getD_lt q i _ (by omega)]
  rw [List.drop_eq_getElem_cons (show i < q.length by omega),hx]
  simp only [rwF,HQ]
  rw [hw2,Int.toNat_natCast]
  cases hF:(rd_T31 q (i:Int)).f0 with
  | true =>
   rw [dec_all _ m w _ (lfF_length q l (d + 1) i (w + m) xs),if_pos rfl]
   constructor
   ·intro h y hy
    have:=h y hy
    rw [hslc y hy] at this
    exact (ih (i + 1) (by omega) m hm _).1 this
   ·intro h y hy
    rw [hslc y hy]
    exact (ih (i + 1) (by omega) m hm _).2 (h y hy)
  | false =>
   rw [dec_any _ m w _ (lfF_length q l (d + 1) i (w + m) xs),if_neg (by decide)]
   constructor
   ·rintro ⟨y,hy,h⟩
    rw [hslc y hy] at h
    exact ⟨y,hy,(ih (i + 1) (by omega) m hm _).1 h⟩
   ·rintro ⟨y,hy,h⟩
    exact ⟨y,hy,by rw [hslc y hy];exact (ih (i + 1) (by omega) m hm _).2 h⟩
theorem rd_far (xs:List Int) (v:Nat) (y K:Int) (h:K.toNat≠v):rd (xs.set v y) K=rd xs K:=by
 unfold rd
 rw [List.getD_eq_getElem?_getD,List.getElem?_set,if_neg (fun e=>h e.symm),← List.getD_eq_getElem?_getD]
theorem rt_idle (l:List S52) (hT:tmF l=true) (v:Nat) (hv:∀ j:Nat,j < l.length→rdOf false (mkS l) (j:Int)=true→(rd_T52 l (j:Int)).f0=1→(rd_T52 l (j:Int)).f2.toNat≠v) (xs:List Int) (y:Int):rtF l (xs.set v y)=rtF l xs:=by
 have hp:=tm_pos hT
 have main:∀ i,i < l.length→rdOf false (mkS l) (i:Int)=true→(vlist l (xs.set v y) l.length).getD i 0=(vlist l xs l.length).getD i 0:=by
  intro i
  induction i using Nat.strongRecOn with|ind i ih =>
  intro hi hm
  rw [vlist_get l _ i l.length hi,vlist_get l _ i l.length hi]
  unfold oneF
  by_cases h1:(rd_T52 l (i:Int)).f0=1
  ·rw [if_pos h1,if_pos h1]
   exact rd_far xs v y _ (hv i hi hm h1)
  ·rw [if_neg h1,if_neg h1]
   have hpp:=tm_parts l hT i hi
   have hmp:=mk_parts l hT i hi hm
   have part:∀ q:Nat,v3 (vlist l (xs.set v y) i) (np (rd_T52 l (i:Int))) q=v3 (vlist l xs i) (np (rd_T52 l (i:Int))) q:=fun q=>by
    unfold v3
    by_cases h:q < (np (rd_T52 l (i:Int))).length
    ·rw [if_pos h,if_pos h]
     have hmem:rd (np (rd_T52 l (i:Int))) (q:Int)∈np (rd_T52 l (i:Int)):=by rw [rd_nat,getD_lt _ q _ h];exact List.getElem_mem h
     have h2:=hpp _ hmem
     have h3:=hmp _ hmem
     obtain ⟨j,hj⟩:=Int.eq_ofNat_of_zero_le h2.1
     rw [hj] at h2 h3 ⊢
     rw [rd_nat,rd_nat,vlist_same l _ j i l.length (by omega) (by omega),vlist_same l xs j i l.length (by omega) (by omega)]
     exact ih j (by omega) (by omega) h3
    ·rw [if_neg h,if_neg h]
   rw [part 0,part 1,part 2]
 unfold rtF
 rw [show ((l.length:Int) - 1)=((l.length - 1:Nat):Int) from by omega,rd_nat,rd_nat]
 exact main (l.length - 1) (by omega) (mk_root l hp)
theorem hq_set (l:List S52) (v:Nat) (y:Int) (hrt:∀ xs:List Int,rtF l (xs.set v y)=rtF l xs):∀ q:List S31,(∀ x∈q,x.f1.toNat≠v)→∀ xs,(HQ l q (xs.set v y)↔HQ l q xs):=by
 intro q
 induction q with
 | nil =>
  intro _ xs
  simp only [HQ,hrt]
 | cons x q ih =>
  intro h xs
  have hx:=h x (List.mem_cons_self ..)
  have e:∀ u:Nat,(HQ l q ((xs.set v y).set x.f1.toNat (u:Int))↔HQ l q (xs.set x.f1.toNat (u:Int))):=fun u=>by
   rw [List.set_comm _ _ (fun e=>hx e.symm)]
   exact ih (fun z hz=>h z (List.mem_cons_of_mem _ hz)) _
  simp only [HQ]
  split
  ·exact ⟨fun g u hu=>(e u).1 (g u hu),fun g u hu=>(e u).2 (g u hu)⟩
  ·exact ⟨fun ⟨u,hu,g⟩=>⟨u,hu,(e u).1 g⟩,fun ⟨u,hu,g⟩=>⟨u,hu,(e u).2 g⟩⟩
theorem hq_idle (l:List S52) (z:S31) (hrt:∀ (y:Int) (xs:List Int),rtF l (xs.set z.f1.toNat y)=rtF l xs) (Y:List S31) (hY:∀ x∈Y,x.f1.toNat≠z.f1.toNat):∀ (X:List S31) (xs:List Int),(HQ l (X ++ z :: Y) xs↔HQ l (X ++ Y) xs):=by
 intro X
 induction X with
 | nil =>
  intro xs
  have e:∀ u:Nat,(HQ l Y (xs.set z.f1.toNat (u:Int))↔HQ l Y xs):=fun u=>hq_set l _ _ (hrt _) Y hY xs
  have h0:=Nat.two_pow_pos z.f2.toNat
  simp only [List.nil_append,HQ]
  split
  ·exact ⟨fun g=>(e 0).1 (g 0 h0),fun g u hu=>(e u).2 g⟩
  ·exact ⟨fun ⟨u,hu,g⟩=>(e u).1 g,fun g=>⟨0,h0,(e 0).2 g⟩⟩
 | cons x X ih =>
  intro xs
  simp only [List.cons_append,HQ]
  split
  ·exact ⟨fun g u hu=>(ih _).1 (g u hu),fun g u hu=>(ih _).2 (g u hu)⟩
  ·exact ⟨fun ⟨u,hu,g⟩=>⟨u,hu,(ih _).1 g⟩,fun ⟨u,hu,g⟩=>⟨u,hu,(ih _).2 g⟩⟩
theorem fw_list (q:List S31) (hr:∀ x∈q,(0≤x.f1∧x.f1≤7)∧(1≤x.f2∧x.f2≤8)) (hN:(q.map fun x=>x.f1).Nodup):∃ ws,fwF q q.length 0 (List.replicate 8 0)=some ws∧(∀ x∈q,rd ws x.f1=x.f2)∧∀ K:Int,0≤K→(K ∉ q.map fun x=>x.f1)→rd ws K=0:=by
 have z0:∀ K:Int,0≤K→rd (List.replicate 8 0) K=0:=fun K hK=>by
  obtain ⟨k,rfl⟩:=Int.eq_ofNat_of_zero_le hK
  rw [rd_nat,List.getD_eq_getElem?_getD,List.getElem?_replicate]
  split <;> rfl
 have hat:∀ j:Nat,j < q.length→rd_T31 q (j:Int)∈q:=fun j hj=>by
  rw [rdQ_nat,getD_lt q j _ hj]
  exact List.getElem_mem hj
 obtain ⟨ws,e,h⟩:=fw_ok q (fun j hj=>hr _ (hat j hj)) (fun a b hab hb=>by
  have:=List.pairwise_iff_getElem.1 hN a b (by rw [List.length_map];omega) (by rw [List.length_map];exact hb) hab
  rw [rdQ_nat,rdQ_nat,getD_lt q a _ (by omega),getD_lt q b _ hb]
  simpa using this) q.length 0 (by omega) (List.replicate 8 0) rfl (fun j _ hj=>z0 _ (hr _ (hat j hj)).1.1)
 refine ⟨ws,e,fun x hx=>?_,fun K hK hn=>?_⟩
 ·obtain ⟨j,hj,rfl⟩:=List.getElem_of_mem hx
  have:=(fwF_at q q.length 0 _ ws rfl e j (by omega) (by omega)).2.2
  rw [rdQ_nat,getD_lt q j _ hj] at this
  exact this
 ·rw [h K hK (fun j _ hj e2=>hn (List.mem_map.2 ⟨_,hat j hj,e2⟩))]
  exact z0 K hK
theorem fr_mem {q:List S31} {l:List S52} {ws:List Int} (ok:FrOk q l ws):∀ x∈q,(0≤x.f1∧x.f1≤7)∧(1≤x.f2∧x.f2≤8)∧rd ws x.f1=x.f2:=fun x hx=>by
 obtain ⟨j,hj,rfl⟩:=List.getElem_of_mem hx
 have:=ok.vars j hj
 rw [rdQ_nat,getD_lt q j _ hj] at this
 exact this
theorem fr_reach {q:List S31} {l:List S52} {ws:List Int} (ok:FrOk q l ws) (hN:(q.map fun x=>x.f1).Nodup) (j:Nat) (hj:j < l.length) (hm:rdOf false (mkS l) (j:Int)=true) (h1:(rd_T52 l (j:Int)).f0=1):∃ x∈q,x.f1=(rd_T52 l (j:Int)).f2∧x.f2=(rd_T52 l (j:Int)).f1:=by
 obtain ⟨ws2,e,_,hz⟩:=fw_list q (fun x hx=>⟨(fr_mem ok x hx).1,(fr_mem ok x hx).2.1⟩) hN
 obtain rfl:ws2=ws:=Option.some.inj (e.symm.trans ok.fw)
 have hv:=tm_var l ok.term j hj h1
 have hw:=nd_w l ok.term j hj
 rw [rdOf_nat'] at hm
 have hf:=fnF_at l _ ws2 l.length 0 ok.fits j (by omega) (by omega) hm h1
 by_cases hin:(rd_T52 l (j:Int)).f2∈q.map fun x=>x.f1
 ·obtain ⟨x,hx,ex⟩:=List.mem_map.1 hin
  have:=(fr_mem ok x hx).2.2
  exact ⟨x,hx,ex,by rw [← this,ex];exact hf⟩
 ·have:=hz _ hv.1 hin
  omega
theorem sw_all (q:List S31):swF q q.length 0=(q.map fun x=>x.f2).sum:=by
 rw [sw_sum q q.length 0 (by omega),List.drop_zero]
theorem idle_fr {X Y:List S31} {z:S31} {l:List S52} {ws:List Int} (ok:FrOk (X ++ Y) l ws) (hN:((X ++ Y).map fun x=>x.f1).Nodup) (hz:0≤z.f1∧z.f1≤7) (hz1:z.f2=1) (hn:z.f1 ∉ (X ++ Y).map fun x=>x.f1):(∃ ws',FrOk (X ++ z :: Y) l ws')∧swF (X ++ z :: Y) (X ++ z :: Y).length 0=swF (X ++ Y) (X ++ Y).length 0 + 1:=by
 have hmem:∀ x,x∈X ++ z :: Y↔x=z∨x∈X ++ Y:=fun x=>by
  simp only [List.mem_append,List.mem_cons]
  constructor
  ·rintro (h|h|h)
   ·exact Or.inr (Or.inl h)
   ·exact Or.inl h
   ·exact Or.inr (Or.inr h)
  ·rintro (h|h|h)
   ·exact Or.inr (Or.inl h)
   ·exact Or.inl h
   ·exact Or.inr (Or.inr h)
 have hr:∀ x∈X ++ z :: Y,(0≤x.f1∧x.f1≤7)∧(1≤x.f2∧x.f2≤8):=fun x hx=>by
  rcases (hmem x).1 hx with rfl|h
  ·exact ⟨hz,by omega⟩
  ·exact ⟨(fr_mem ok x h).1,(fr_mem ok x h).2.1⟩
 have hN2:((X ++ z :: Y).map fun x=>x.f1).Nodup:=by
  have hp:((X ++ z :: Y).map fun x=>x.f1).Perm (z.f1 :: (X ++ Y).map fun x=>x.f1):=List.Perm.map (fun x:S31=>x.f1) (List.perm_middle (a:=z) (l₁:=X) (l₂:=Y))
  exact hp.symm.nodup (List.nodup_cons.2 ⟨hn,hN⟩)
 obtain ⟨ws',e,hat,_⟩:=fw_list _ hr hN2
 refine ⟨⟨ws',fun j hj=>?_,e,ok.term,ok.root,?_⟩,?_⟩
 ·have hx:rd_T31 (X ++ z :: Y) (j:Int)∈X ++ z :: Y:=by
   rw [rdQ_nat,getD_lt _ j _ hj]
   exact List.getElem_mem hj
  exact ⟨(hr _ hx).1,(hr _ hx).2,hat _ hx⟩
 ·refine fn_all l _ ws' (fun j hj=>⟨ok.plain j hj,fun hm h1=>?_⟩) l.length 0 (by omega)
  obtain ⟨x,hx,e1,e2⟩:=fr_reach ok hN j hj hm h1
  rw [← e1,← e2]
  exact hat x ((hmem x).2 (Or.inr hx))
 ·rw [sw_all,sw_all]
  simp only [List.map_append,List.map_cons,List.sum_append,List.sum_cons,hz1]
  omega
theorem idle_hol {X Y:List S31} {z:S31} {l:List S52} {ws:List Int} (ok:FrOk (X ++ Y) l ws) (hN:((X ++ Y).map fun x=>x.f1).Nodup) (hz:0≤z.f1∧z.f1≤7) (hz1:z.f2=1) (hn:z.f1 ∉ (X ++ Y).map fun x=>x.f1) (hs:swF (X ++ Y) (X ++ Y).length 0≤8) :
  ∃ v,holF (X ++ Y) l=(v,true)∧holF (X ++ z :: Y) l=(v,true):=by
 obtain ⟨⟨ws',ok2⟩,h1⟩:=idle_fr ok hN hz hz1 hn
 have p1:=fr_sum ok
 obtain ⟨n,hn1⟩:=Int.eq_ofNat_of_zero_le p1
 have hw1:=hq_dec (X ++ Y) l (fr_w ok) (X ++ Y).length 0 (by omega) n hn1 (List.replicate 8 0)
 have hw2:=hq_dec (X ++ z :: Y) l (fr_w ok2) (X ++ z :: Y).length 0 (by omega) (n + 1) (by omega) (List.replicate 8 0)
 rw [List.drop_zero] at hw1 hw2
 have hsame:dec (rwF (X ++ z :: Y) (X ++ z :: Y).length 0) (lfF (X ++ z :: Y) l (X ++ z :: Y).length 0 (n + 1) (List.replicate 8 0))=dec (rwF (X ++ Y) (X ++ Y).length 0) (lfF (X ++ Y) l (X ++ Y).length 0 n (List.replicate 8 0)):=by
  rw [Bool.eq_iff_iff,hw1,hw2]
  refine hq_idle l z (fun y xs=>rt_idle l ok.term _ (fun j hj hm h1 e=>?_) xs y) Y (fun x hx e=>?_) X _
  ·obtain ⟨x,hx,e1,_⟩:=fr_reach ok hN j hj hm h1
   have:=(fr_mem ok x hx).1
   exact hn (List.mem_map.2 ⟨x,hx,by omega⟩)
  ·have hx2:x∈X ++ Y:=List.mem_append.2 (Or.inr hx)
   have:=(fr_mem ok x hx2).1
   exact hn (List.mem_map.2 ⟨x,hx2,by omega⟩)
 refine ⟨_,by unfold holF;rw [if_pos ⟨frF_of ok,by omega⟩],?_⟩
 unfold holF
 rw [if_pos ⟨frF_of ok2,by omega⟩,h1,hn1,show ((n:Int) + 1).toNat=n + 1 from by omega,hsame,Int.toNat_natCast]
theorem tm_K (l:List S52) (hT:tmF l=true):∀ j:Nat,j < l.length → -9223372036854775808≤(rd_T52 l (j:Int)).f2∧(rd_T52 l (j:Int)).f2≤9223372036854775807:=by
 intro j hj
 have h:=tm_nd l hT j hj
 generalize rd_T52 l (j:Int)=x at h
 generalize l.take j=L at h
 unfold ndF at h
 simp only [Bool.and_eq_true,decide_eq_true_eq] at h
 obtain ⟨hW,hO,hU,_,hop⟩:=h
 by_cases h0:x.f0=0
 ·unfold opF at hop
  rw [if_pos h0] at hop
  unfold apOk at hop
  have h1:=of_decide_eq_true hop
  obtain ⟨w,hw⟩:=Int.eq_ofNat_of_zero_le (show 0≤x.f1 by omega)
  rw [hw,Int.toNat_natCast] at h1
  have:=(apPow w (by omega)).2
  omega
 by_cases h1:x.f0=1
 ·unfold opF at hop
  rw [if_neg h0,if_pos h1] at hop
  have:=of_decide_eq_true hop
  omega
 by_cases h17:x.f0=17
 ·unfold opF at hop
  rw [if_neg h0,if_neg h1,if_neg (by omega),if_neg (by omega),if_neg (by omega),if_neg (by omega),if_pos h17] at hop
  have h2:=of_decide_eq_true hop
  have h3:wrap64 (w3 L (np x) 0 - x.f1)≤9223372036854775807:=by unfold wrap64;omega
  omega
 by_cases hq:qu x.f0=true
 ·have hq2:=(qu_iff _).1 hq
  unfold opF at hop
  rw [if_neg h0,if_neg h1,if_neg (by omega),if_neg (by omega),if_neg (by omega),if_neg (by omega),if_neg h17,if_neg (by omega)] at hop
  rw [Bool.and_eq_true] at hop
  have:=of_decide_eq_true hop.1
  omega
 ·have hz:x.f2=0:=by
   unfold usesF at hU
   rw [if_neg (by omega),if_neg h17,if_neg hq] at hU
   repeat' split at hU
   all_goals simp only [Bool.and_eq_true,beq_iff_eq] at hU
   all_goals first|exact hU|exact hU.1
  omega
abbrev fallS:List S52:=[⟨1,1,0,0,0,0⟩,⟨20,1,0,0,1,0⟩]
theorem fall_sent:Ev (fun k=>spec_Sentence.f k fallS) true:=⟨200,fun k hk=>by
 obtain ⟨m,rfl⟩:∃ m,k=m + 200:=⟨k - 200,by omega⟩
 clear hk
 show spec_Sentence.f (m + 200) fallS=some true
 kernel_rfl⟩
theorem sent_tells {l:List S52} (hn:l.length≤1048576) (h:Ev (fun k=>spec_Sentence.f k l) true):SnOk l:=by
 obtain ⟨b,e,h2⟩:=sent_ok l hn
 exact h2 (ev_one e h)
theorem new_ev (b:List Int) (hb:b.length≤1099511627776):∃ h,Ev (fun k=>spec_l01New.f k b) (b,0,h):=by
 have H:∀ d (i:Nat) h,i + d=b.length→∃ h',Ev (fun k=>spec_l01New.l0 k b h (i:Int)) (b,0,h'):=by
  intro d
  induction d with
  | zero =>
   intro i h hi
   refine ⟨h,ev_succ ?_⟩
   simp only [spec_l01New.l0,if_neg (show ¬ (i:Int) < (b.length:Int) by omega)]
   exact ev_some _
  | succ d ih =>
   intro i h hi
   by_cases h4:(i:Int) < 4000
   ·obtain ⟨h',e⟩:=ih (i + 1) (Go.bits .and .i64 (wrap64 ((wrap64 ((wrap64 (h * 131)) + (wrap64 (rd b (i:Int))))) + 7)) 1073741823) (by omega)
    refine ⟨h',ev_succ ?_⟩
    simp only [spec_l01New.l0,if_pos (show (i:Int) < (b.length:Int) by omega),if_pos h4,if_pos (show 0≤(i:Int) by omega),w64s i (show i < 4611686018427387904 by omega)]
    exact e
   ·refine ⟨h,ev_succ ?_⟩
    simp only [spec_l01New.l0,if_pos (show (i:Int) < (b.length:Int) by omega),if_neg h4]
    exact ev_some _
 exact H b.length 0 _ (by omega)
theorem said_ok (b:List Int) (hb:b.length≤1099511627776):∃ t,Ev (fun k=>spec_DrawSaid.f k b) t∧Ev (fun k=>spec_Sentence.f k t) true∧t.length≤80∧qB t≤8:=by
 obtain ⟨h0,en⟩:=new_ev b hb
 obtain ⟨l',a,nx',bs',p,q,em,hp,hl,hq,hb0,hb1,hn0,hn1⟩:=made_ok b 4 (by decide) [] [] 0 8 0 h0 (st_zero hb) (by decide) (by decide) (by decide) (by decide) ⟨by simp,by simp⟩ (by simp) (by simp [mG])
 have hq0:qB ([]:List S52)=0:=rfl
 rw [hq0] at hq
 have hl2:l'.length≤1048576:=by simp [mG] at hl;omega
 have key:∃ t p2 q2,Ev (fun k=>spec_l02Sentence.f k b 0 h0 8) (t,p2,q2)∧Ev (fun k=>spec_Sentence.f k t) true∧t.length≤80∧qB t≤8:=by
  unfold spec_l02Sentence.f
  by_cases c:(l'.length:Int) > 80
  ·refine ⟨fallS,p,q,ev_bind em ?_,fall_sent,by decide,by decide⟩
   simp only [if_pos c]
   exact ev_some _
  obtain ⟨t,et,_⟩:=sent_ok l' hl2
  cases t with
  | true =>
   refine ⟨l',p,q,ev_bind em ?_,et,by omega,by omega⟩
   simp only [if_neg c]
   refine ev_bind et ?_
   simp only [if_true]
   exact ev_some _
  | false =>
   refine ⟨fallS,p,q,ev_bind em ?_,fall_sent,by decide,by decide⟩
   simp only [if_neg c]
   refine ev_bind et ?_
   simp only [Bool.false_eq_true,if_false]
   exact ev_some _
 obtain ⟨t,p2,q2,e2,h1,h2,h3⟩:=key
 refine ⟨t,?_,h1,h2,h3⟩
 unfold spec_DrawSaid.f
 exact ev_bind en (ev_bind e2 (ev_some _))
theorem iqByte {a:Int} (h:(Lit.int .u8 a).wf=true):0≤a∧a≤255:=by
 have hmin:IntKind.u8.min=0:=rfl
 have hmax:IntKind.u8.max=255:=rfl
 simp only [Lit.wf,Bool.and_eq_true,decide_eq_true_eq] at h
 omega
theorem iqAt (l:List Int) (hl:l.length≤1048576) (hw:∀ x∈l,(Lit.int .u8 x).wf=true) (i:Nat) (hi:i≤9):∃ v,laws_at.f l (i:Int)=some v∧0≤v:=by
 unfold laws_at.f
 by_cases c:(i:Int) < (l.length:Int)
 ·rw [if_pos c,if_pos (by omega)]
  have:=iqByte (hw _ (List.getElem_mem (show i < l.length by omega)))
  refine ⟨_,rfl,?_⟩
  rw [rd_nat,getD_lt l i _ (by omega),w64 (by omega) (by omega)]
  exact this.1
 ·rw [if_neg c]
  refine ⟨_,rfl,Int.tmod_nonneg _ ?_⟩
  rw [w64 (show -9223372036854775808≤(i:Int) * 7 by omega) (by omega),w64 (by omega) (by omega)]
  omega
structure iqM (q:List S31) (i:Nat) (M:List Bool):Prop where
 len:M.length=8
 at_:∀ K:Nat,K < 8→(M.getD K false=true↔∃ j:Nat,j < i∧(rd_T31 q (j:Int)).f1=(K:Int))
theorem iq0 (b:List Int) (q:List S31) (r:List S52) (R:Bool) (e:Ev (fun k=>laws_FnIdleQuant.l1 k b q r (List.replicate 8 false) 0) R):∀ d i:Nat,i + d=8→Ev (fun k=>laws_FnIdleQuant.l0 k b q r (List.replicate i false) (i:Int)) R:=by
 intro d
 induction d with
 | zero =>
  intro i hi
  obtain rfl:i=8:=by omega
  refine ev_succ ?_
  simp only [laws_FnIdleQuant.l0,if_neg (show ¬ ((8:Nat):Int) < 8 by decide)]
  exact e
 | succ d ih =>
  intro i hi
  have h:=ih (i + 1) (by omega)
  rw [List.replicate_succ'] at h
  refine ev_succ ?_
  simp only [laws_FnIdleQuant.l0,if_pos (show (i:Int) < 8 by omega),List.length_replicate,if_pos (show i < 140737488355328 by omega),w64s i (show i < 4611686018427387904 by omega)]
  exact h
theorem iq1 (b:List Int) (q:List S31) (r:List S52) (R:Bool) (hq:q.length≤80) (hv:∀ j:Nat,j < q.length→0≤(rd_T31 q (j:Int)).f1∧(rd_T31 q (j:Int)).f1≤7) (e:∀ M,iqM q q.length M→Ev (fun k=>laws_FnIdleQuant.l2 k b q r M 0) R) :
  ∀ d i,i + d=q.length→∀ M,iqM q i M→Ev (fun k=>laws_FnIdleQuant.l1 k b q r M (i:Int)) R:=by
 intro d
 induction d with
 | zero =>
  intro i hi M hM
  obtain rfl:i=q.length:=by omega
  refine ev_succ ?_
  simp only [laws_FnIdleQuant.l1,if_neg (show ¬ (q.length:Int) < (q.length:Int) by omega)]
  exact e M hM
 | succ d ih =>
  intro i hi M hM
  have h1:=hv i (by omega)
  have hl:=hM.len
  refine ev_succ ?_
  simp only [laws_FnIdleQuant.l1,if_pos (show (i:Int) < (q.length:Int) by omega),if_pos (show 0≤(i:Int) by omega),if_pos h1.1,if_pos (show (rd_T31 q (i:Int)).f1 < (M.length:Int) by omega),w64s i (show i < 4611686018427387904 by omega)]
  refine ih (i + 1) (by omega) _ ⟨by rw [List.length_set];exact hl,fun K hK=>?_⟩
  rw [List.getD_eq_getElem?_getD,List.getElem?_set]
  by_cases c:(rd_T31 q (i:Int)).f1.toNat=K
  ·rw [if_pos c,if_pos (by omega)]
   exact ⟨fun _=>⟨i,by omega,by omega⟩,fun _=>rfl⟩
  ·rw [if_neg c,← List.getD_eq_getElem?_getD,hM.at_ K hK]
   constructor
   ·rintro ⟨j,hj,h⟩
    exact ⟨j,by omega,h⟩
   ·rintro ⟨j,hj,h⟩
    rcases Nat.lt_succ_iff_lt_or_eq.1 hj with h2|rfl
    ·exact ⟨j,h2,h⟩
    ·omega
theorem iq2 (b:List Int) (q:List S31) (r:List S52) (R:Bool) (M:List Bool) (hM:M.length=8) (e:∀ v:Nat,v≤8→(v < 8→M.getD v false=false)→Ev (fun k=>laws_FnIdleQuant.j3 k b q r (v:Int)) R):∀ d i:Nat,i + d=8→Ev (fun k=>laws_FnIdleQuant.l2 k b q r M (i:Int)) R:=by
 intro d
 induction d with
 | zero =>
  intro i hi
  obtain rfl:i=8:=by omega
  refine ev_succ ?_
  simp only [laws_FnIdleQuant.l2,if_neg (show ¬ ((8:Nat):Int) < 8 by decide)]
  exact e 8 (Nat.le_refl _) (fun h=>by omega)
 | succ d ih =>
  intro i hi
  have h:=ih (i + 1) (by omega)
  refine ev_succ ?_
  cases hm:M.getD i false with
  | true =>
   simp only [laws_FnIdleQuant.l2,if_pos (show (i:Int) < 8 by omega),if_pos (show 0≤(i:Int) by omega),if_pos (show (i:Int) < (M.length:Int) by omega),if_pos (show rdOf false M (i:Int)=true by rw [rdOf_nat'];exact hm),w64s i (show i < 4611686018427387904 by omega)]
   exact h
  | false =>
   simp only [laws_FnIdleQuant.l2,if_pos (show (i:Int) < 8 by omega),if_pos (show 0≤(i:Int) by omega),if_pos (show (i:Int) < (M.length:Int) by omega),if_neg (show ¬ rdOf false M (i:Int)=true by rw [rdOf_nat',hm];decide)]
   exact e i (by omega) (fun _=>hm)
theorem iq3 (b:List Int) (hl:b.length≤1048576) (hw:∀ x∈b,(Lit.int .u8 x).wf=true) (q:List S31) (r:List S52) (ws:List Int) (ok:FrOk q r ws) (hq:q.length≤80) (hr:r.length≤80) (hN:(q.map fun x=>x.f1).Nodup) (hs:swF q q.length 0≤8) (v:Nat) (hv:v≤8) (hf:v < 8→(v:Int) ∉ q.map fun x=>x.f1) :
  Ev (fun k=>laws_FnIdleQuant.j3 k b q r (v:Int)) true:=by
 have hK:=tm_K r ok.term
 obtain ⟨x,hx⟩:∃ x,holF q r=(x,true):=by
  unfold holF
  rw [if_pos ⟨frF_of ok,by omega⟩]
  exact ⟨_,rfl⟩
 have hI:=holdsI q r (by omega) (by omega) hK
 have hS:=holdsFS q r (by omega) (by omega) hK
 rw [hx] at hI hS
 refine ev_succ ?_
 simp only [laws_FnIdleQuant.j3]
 refine ev_bind hI (ev_bind hS ?_)
 simp only [bne_self_eq_false,Bool.false_eq_true,if_false,if_true]
 refine ev_succ ?_
 by_cases h8:v=8
 ·subst h8
  simp only [laws_FnIdleQuant.j4,show (((8:Nat):Int) == 8)=true from rfl,if_true,beq_self_eq_true]
  exact ev_some _
 have hv8:((v:Int) == 8)=false:=beq_eq_false_iff_ne.2 (by omega)
 obtain ⟨t3,e3,p3⟩:=iqAt b hl hw 3 (by decide)
 obtain ⟨t4,e4,_⟩:=iqAt b hl hw 4 (by decide)
 have e3':laws_at.f b 3=some t3:=e3
 have e4':laws_at.f b 4=some t4:=e4
 have hw1:wrap64 ((q.length:Int) + 1)=(q.length:Int) + 1:=w64 (by omega) (by omega)
 have m0:0≤Int.tmod t3 ((q.length:Int) + 1):=Int.tmod_nonneg _ p3
 have m1:Int.tmod t3 ((q.length:Int) + 1) < (q.length:Int) + 1:=Int.tmod_lt_of_pos _ (by omega)
 obtain ⟨n,hn⟩:=Int.eq_ofNat_of_zero_le m0
 simp only [laws_FnIdleQuant.j4,hv8,Bool.false_eq_true,if_false,e3',e4',Option.bind_some,hw1,if_neg (show ¬ (q.length:Int) + 1=0 by omega),hn,if_pos (show 0≤(n:Int) by omega),if_pos (show (n:Int)≤(q.length:Int) by omega),Int.toNat_natCast]
 have z1:([]:List S31).length + (q.take n).length < 5864062014805:=by rw [List.length_take,List.length_nil];omega
 simp only [if_pos z1,List.nil_append]
 have z2:(q.take n).length < 5864062014805:=by rw [List.length_take];omega
 simp only [if_pos z2]
 generalize hz:(⟨Int.tmod t4 2 == 0,(v:Int),1⟩:S31)=z
 have z3:(q.take n ++ [z]).length + (q.drop n).length < 5864062014805:=by rw [List.length_append,List.length_take,List.length_drop,List.length_singleton];omega
 simp only [if_pos z3]
 rw [show q.take n ++ [z] ++ q.drop n=q.take n ++ z :: q.drop n from by rw [List.append_assoc];rfl]
 have hsplit:=List.take_append_drop n q
 have ok':=ok
 have hN':=hN
 have hs':=hs
 rw [← hsplit] at ok' hN' hs'
 have hz1:z.f1=(v:Int):=by rw [← hz]
 have hz2:z.f2=1:=by rw [← hz]
 have hnz:z.f1 ∉ (q.take n ++ q.drop n).map fun x=>x.f1:=by
  rw [hsplit,hz1]
  exact hf (by omega)
 obtain ⟨⟨ws',ok2⟩,hsw⟩:=idle_fr (z:=z) ok' hN' (by omega) hz2 hnz
 obtain ⟨x',hx1,hx2⟩:=idle_hol (z:=z) ok' hN' (by omega) hz2 hnz hs'
 rw [hsplit] at hx1 hsw
 obtain rfl:x'=x:=(Prod.mk.inj (hx1.symm.trans hx)).1
 have hmore:(q.take n ++ z :: q.drop n).length≤81:=by rw [List.length_append,List.length_take,List.length_cons,List.length_drop];omega
 have hI2:=holdsI (q.take n ++ z :: q.drop n) r (by omega) (by omega) hK
 rw [hx2] at hI2
 refine ev_bind hI2 ?_
 simp only [if_true]
 have r1:=rowsI (q.take n ++ z :: q.drop n) (by omega) (fr_w ok2) (by omega)
 have r2:=rowsI q (by omega) (fr_w ok) (by omega)
 have l1:=rwF_length (q.take n ++ z :: q.drop n) (fr_w ok2) (q.take n ++ z :: q.drop n).length 0 (by omega)
 have l2:=rwF_length q (fr_w ok) q.length 0 (by omega)
 refine ev_bind r1 (ev_bind r2 ?_)
 rw [w64 (by omega) (by omega),l1,l2,hsw,beq_self_eq_true]
 exact ev_some _
theorem FnIdleQuant_pure:∀ (l0:List Int),(l0.length≤maxLen∧∀ x_∈l0,(Lit.int .u8 x_).wf=true)→∃ k,laws_FnIdleQuant.f k l0=some true:=by
 intro b ⟨_,hw⟩
 refine ev_rounds ?_
 unfold laws_FnIdleQuant.f
 simp only [laws_big.f,Option.bind_some]
 by_cases c:(b.length:Int) > 1048576
 ·simp only [decide_eq_true c,if_true]
  exact ev_some _
 simp only [decide_eq_false c,Bool.false_eq_true,if_false]
 obtain ⟨t,et,es,ht,hb⟩:=said_ok b (by omega)
 obtain ⟨q,r,ws,ef,ok,hs,hq,hr,hN⟩:=front_ok t es (sent_tells (by omega) es)
 refine ev_bind et (ev_bind ef ?_)
 refine iq0 b q r true ?_ 8 0 rfl
 refine iq1 b q r true hq (fun j hj=>(ok.vars j hj).1) (fun M hM=>?_) q.length 0 (by omega) (List.replicate 8 false) ⟨rfl,fun K hK=>?_⟩
 ·refine iq2 b q r true M hM.len (fun v hv hf=>?_) 8 0 rfl
  refine iq3 b (by omega) hw q r ws ok hq hr hN (by omega) v hv (fun h8 hin=>?_)
  obtain ⟨x,hx,e⟩:=List.mem_map.1 hin
  obtain ⟨j,hj,rfl⟩:=List.getElem_of_mem hx
  have:M.getD v false=true:=(hM.at_ v h8).2 ⟨j,hj,by rw [rdQ_nat,getD_lt q j _ hj];exact e⟩
  rw [hf h8] at this
  cases this
 ·constructor
  ·intro h
   rw [List.getD_eq_getElem?_getD,List.getElem?_replicate] at h
   split at h <;> cases h
  ·rintro ⟨j,hj,_⟩
   omega
end Go.Proofs.YthipjoioicmcnaaGreat.Pure
namespace Go.Proofs.YthipjoioicmcnaaGreat.Open
open Go.Deep Go.ChangeShapes Go.WideShapes Go.RowKit Go.Proofs.YthipjoioicmcnaaGreatW.PrintWords
def Opens {α:Type} (P:Program) (t:TypeId) (d:Kd α) (ok:α→Prop):Prop :=
 ∀ (H:Type) (enc:TypeId × Value→H) (w:World) (base:Nat) (spare:Nat→Bool) (held:Bool) (fuel:Nat) (cs:List Value) (x:DataW H × List MemPlace),
  DataW.trod enc P w base spare held fuel t cs=some x→∃ a,d.K w a cs∧ok a
theorem opens_int {P:Program} {t:TypeId} {k:IntKind} (hu:P.underlying t=some (.int k)):Opens P t (Kd.int k) (fun a=>(Lit.int k a).wf=true):=by
 intro H enc w base spare held fuel cs x h
 obtain ⟨n,rfl,_,hw⟩:=DataW.trod_int hu h
 exact ⟨n,rfl,hw⟩
theorem list_of {α:Type} {p:Nat→α→Prop}:∀ n,(∀ i,i < n→∃ a,p i a)→∃ l:List α,l.length=n∧∀ i a,l[i]? = some a→p i a
 | 0,_=>⟨[],rfl,fun i a h=>by simp at h⟩
 | n + 1,h=>by
  obtain ⟨l,hl,hp⟩:=list_of n (fun i hi=>h i (by omega))
  obtain ⟨a,ha⟩:=h n (by omega)
  refine ⟨l ++ [a],by simp [hl],fun i b hb=>?_⟩
  rw [List.getElem?_append] at hb
  split at hb
  ·exact hp i b hb
  ·rename_i hi
   have e:i=n:=by
    rcases Nat.lt_or_ge (i - l.length) 1 with h1|h1
    ·omega
    ·rw [List.getElem?_eq_none (by simpa using h1)] at hb
     cases hb
   subst e
   rw [hl,Nat.sub_self] at hb
   cases hb
   exact ha
theorem opens_slice {α:Type} {P:Program} {t e:TypeId} {d:Kd α} {ok:α→Prop} (hu:P.underlying t=some (.slice e)) (hc:P.cellsOf e=d.sz) (h:Opens P e d ok) :
  Opens P t (Kd.slice e d) (fun l=>l.length≤maxLen∧∀ x∈l,ok x):=by
 intro H enc w base spare held fuel cs x hx
 rcases open_slice hu hx with ⟨rfl,rfl⟩ | ⟨a,len,cap,m,n,D,Pl,rfl,hb,hl,hm,hmm,rfl,hel⟩
 ·exact ⟨[],⟨none,0,rfl,Nat.le_refl _,rfl,by simp,fun h=>absurd h (by simp)⟩,by simp [maxLen],by simp⟩
 ·have hle:len≤m:=by rw [hmm];split <;> omega
  have hone:∀ i,i < len→∃ y:α,(∃ cs',w.cells? base (a.add (i * P.cellsOf e)) (P.cellsOf e)=some cs'∧d.K w y cs')∧ok y:=by
   intro i hi
   obtain ⟨cs',h1,h2⟩:=hel i (by omega)
   obtain ⟨y,hk,ho⟩:=h H enc w base spare held n cs' _ h2
   exact ⟨y,⟨cs',h1,hk⟩,ho⟩
  obtain ⟨l,hll,hp⟩:=list_of len hone
  subst hll
  refine ⟨l,⟨some a,cap,rfl,hl,rfl,by simp only [maxLen] at hm;omega,fun _=>⟨a,rfl,fun j p hj=>?_⟩⟩,by omega,?_⟩
  ·obtain ⟨⟨cs',h1,hk⟩,_⟩:=hp j p hj
   refine ⟨cs',d.K_len hk,hk,fun i u hu=>?_⟩
   have hlt:i < cs'.length:=by
    rcases Nat.lt_or_ge i cs'.length with h'|h'
    ·exact h'
    ·rw [List.getElem?_eq_none h'] at hu;cases hu
   have hlen:=d.K_len hk
   obtain ⟨_,hlen2,hcell⟩:=World.cells?_some h1
   rw [hc] at hcell
   have:=hcell i (by omega)
   rw [hu] at this
   rw [← Addr.add_add]
   exact this.symm ▸ rfl
  ·intro x hx
   obtain ⟨i,hi,rfl⟩:=List.getElem_of_mem hx
   exact (hp i _ (List.getElem?_eq_getElem hi)).2
end Go.Proofs.YthipjoioicmcnaaGreat.Open
namespace Go.Proofs.YthipjoioicmcnaaGreat.fnIdleQuant
open Go.ChangeShapes Go.WideShapes Go.ChangeAt Go.RowKit Go.Proofs.YthipjoioicmcnaaGreat.Open Go.Proofs.YthipjoioicmcnaaGreat.G Go.Proofs.YthipjoioicmcnaaGreatW.PrintWords
open Go.ChangeMaps (open_string shut_string)
theorem own:ownKnob Tryz.prog.godebug=none:=by kernel_rfl
theorem laidOut:laidOutB Tryz.prog=true:=by kernel_rfl
theorem lifted (os:Os) (started:os.Started) (H:Type) (enc:TypeId × Value→H) :
  ReturnsInHanded {} Tryz.checked os 3 .any (Rows.fnIdleQuantSpec.pre6 enc Tryz.prog Tryz.f3 Rows.fnIdleQuantRow.domain false) (Rows.fnIdleQuantSpec.post enc Tryz.prog Tryz.f3 false true false false):=by
 refine returnsInHanded_of_change (C:=Tryz.checked) own started (by kernel_rfl) Tryz.func3
  (ChangeSpec.witness6 (enc:=enc) (C:=Tryz.checked) false ⟨#[],#[.slice none 0 0],[]⟩ 8 (by kernel_rfl) (by kernel_rfl) (by kernel_rfl) (by kernel_rfl)) ?_
 intro W base args ds gs before hval0 hW hcnd _
 have hval:∀ (j:Nat) t v,Tryz.f3.params[j]? = some t→args[j]? = some v→Value.okWide Tryz.prog W .any base t v:=hval0
 have hW':=hW
 obtain ⟨p,q,hA0,hV,rfl,hfz,hnd⟩:=hW
 have hA:DataW.TrodAll enc Tryz.prog W 0 (fun _=>true) true Tryz.f3.params.toList args.toList ds p:=hA0
 rw [Tryz.params3] at hA hval
 obtain ⟨v0,vs0,d0,ds0,p0,q0,hargs,rfl,rfl,h0,r0⟩:=trodAll_cons hA
 obtain ⟨rfl,rfl,rfl⟩:=trodAll_nil r0
 obtain rfl:args=#[v0]:=by cases args;simp_all
 obtain ⟨rfl,rfl⟩:=trodVars_none hV
 have k0:=h0
 have lt0:∀ x∈p0,x.block < W.heap.size:=by obtain ⟨m,hm⟩:=k0;exact DataW.trod_lt m _ _ _ hm
 obtain ⟨fu0,hf0⟩:=h0
 obtain ⟨a0,len0,cap0,rfl⟩:=okWide_slice Tryz.underlying22 (hval 0 22 v0 rfl rfl)
 obtain ⟨l0,hk0,ok0⟩:=(opens_slice (d:=(Kd.int .u8)) Tryz.underlying22 (by kernel_rfl) (opens_int Tryz.underlying5)) _ enc W 0 _ true fu0 _ _ hf0
 obtain ⟨A0,c0,hcs0,hc0,hr0⟩:=hk0
 simp [Value.cells] at hcs0
 obtain ⟨rfl,rfl,rfl⟩:=hcs0
 clear hA0 hval0
 obtain ⟨k,hk⟩:=Pure.FnIdleQuant_pure l0 ok0
 refine (laws_FnIdleQuant.calls k _ _ l0 true W hr0 hc0 rfl hk).mono fun e W' ⟨he,bel0⟩=>?_
 have bel:Below W.heap.size W W':=bel0
 subst he
 exact ⟨_,rfl,_,_,_,[],_,[],hW',trodAll_mk1 (shut_bool Tryz.underlying4 _),(trodAll_cons_mk (Below.trod laidOut (by kernel_rfl) (of_decide_eq_true (by kernel_rfl)) k0 bel lt0) trodAll_mk0),rfl,bel.frame _,fun h=>by cases h⟩
theorem over:Rows.fnIdleQuantRow.holds Tryz.pinned (OpenSpec.ofChange Rows.fnIdleQuantSpec) :=
 OpenClaim.holds_of_wide 3 Tryz.f3 rfl rfl rfl rfl rfl rfl rfl ⟨rfl,rfl,rfl,rfl,rfl⟩ rfl rfl rfl rfl rfl (by kernel_rfl) Tryz.func3 (by kernel_rfl)
  (of_decide_eq_true (by kernel_rfl)) (by unfold Func.isWrapper;first|(rw [if_pos (by decide +kernel)];kernel_rfl)|(rw [if_neg (by decide +kernel)];exact ⟨rfl,rfl⟩))
  (fun os started H enc _=>lifted os started H enc)
theorem proved:Rows.FnIdleQuantSaid:=over
end Go.Proofs.YthipjoioicmcnaaGreat.fnIdleQuant
namespace Go.Proofs.YthipjoioicmcnaaGreat
/-- The given statement. -/
theorem fnIdleQuant_holds:Rows.FnIdleQuantSaid:=fnIdleQuant.proved
#print axioms fnIdleQuant_holds
end Go.Proofs.YthipjoioicmcnaaGreat
