-- texts of this session, merged by a program of it (wip/gen/pack.py)
import Derived.Test.YthipjoioicmcnaaKFnExactHoldsFront13
import Derived.Test.YthipjoioicmcnaaKFnExactHoldsFront5
import Derived.Test.YthipjoioicmcnaaKFnExactHoldsFront6
import Derived.Test.YthipjoioicmcnaaKFnExactHoldsFront11
import Derived.Test.YthipjoioicmcnaaKFnExactHoldsFront2
import Derived.Test.YthipjoioicmcnaaKFnExactHoldsFront12
import Derived.Test.YthipjoioicmcnaaKFnExactHoldsFront7
import Derived.ProofKit
import Derived.WalkKit
import Derived.Deep.Slices
import Derived.OpenShut
import Derived.ChangeVars
import Derived.ChangeOld
import Derived.Below
import Derived.Test.YthipjoioicmcnaaKFnExactHoldsFront1
import Derived.Test.YthipjoioicmcnaaRows
import Derived.ShutString
set_option linter.unusedSimpArgs false
set_option linter.unusedVariables false
namespace Go.Proofs.Ythipjoioicmcnaa.Pure
open Go.RowKit Go.Proofs.Ythipjoioicmcnaa.G Go.Proofs.YthipjoioicmcnaaW.PrintWords Go.Proofs.YthipjoioicmcnaaW.PrintLast Go.Proofs.YthipjoioicmcnaaW.PrintMore
structure FrOk (q:List S66) (l:List S99) (ws:List Int):Prop where
 vars:∀ j:Nat,j < q.length→(0≤(rd_T66 q (j:Int)).f1∧(rd_T66 q (j:Int)).f1≤7)∧(1≤(rd_T66 q (j:Int)).f2∧(rd_T66 q (j:Int)).f2≤8)∧rd ws (rd_T66 q (j:Int)).f1=(rd_T66 q (j:Int)).f2
 fw:fwF q q.length 0 (List.replicate 8 0)=some ws
 term:tmF l=true
 root:(rd_T99 l ((l.length:Int) - 1)).f1=1
 fits:fnF l (reF l l.length (ms0 l.length)) ws l.length 0=true
theorem fr_ok {q:List S66} {l:List S99} (h:frF q l=true):∃ ws,FrOk q l ws:=by
 unfold frF at h
 cases hw:fwF q q.length 0 (List.replicate 8 0) with
 | none =>
  rw [hw] at h
  cases h
 | some ws =>
  rw [hw] at h
  simp only [Bool.and_eq_true,beq_iff_eq] at h
  exact ⟨ws,fun j hj=>fwF_at q q.length 0 _ ws rfl hw j (by omega) (by omega),hw,h.1,h.2.1,h.2.2⟩
theorem FrOk.plain {q:List S66} {l:List S99} {ws:List Int} (h:FrOk q l ws):∀ j:Nat,j < l.length→qu (rd_T99 l (j:Int)).f0=false:=fun j hj=>fn_plain l _ ws l.length 0 h.fits j (by omega) (by omega)
theorem root_marked (n:Nat) (h:1≤n):(ms0 n).getD (n - 1) false=true:=by
 unfold ms0
 rw [List.getD_eq_getElem?_getD,List.getElem?_set,if_pos rfl,if_pos (by rw [List.length_replicate];omega)]
 rfl
theorem FrOk.bit {q:List S66} {l:List S99} {ws:List Int} (h:FrOk q l ws) (hK:∀ j:Nat,j < l.length → -9223372036854775808≤(rd_T99 l (j:Int)).f2∧(rd_T99 l (j:Int)).f2≤9223372036854775807) (xs:List Int) (hx:xs.length=8) (he:envOk ws xs) :
  rd (vlist l xs l.length) ((l.length:Int) - 1)=0∨rd (vlist l xs l.length) ((l.length:Int) - 1)=1:=by
 have hp:=tm_pos h.term
 have hl:(ms0 l.length).length=l.length:=ms0_length _
 have e:((l.length:Int) - 1)=((l.length - 1:Nat):Int):=by omega
 have hv:=vl_in l h.term ws xs hx (reF l l.length (ms0 l.length)) (fun i hi hm=>reF_parts l h.term l.length _ i hi (Nat.le_refl _) hl hm) h.plain hK
  (fun j hj hm ho=>fnF_at l _ ws l.length 0 h.fits j (by omega) (by omega) hm ho) he (l.length - 1) (by omega) (reF_keep l l.length _ _ (root_marked _ hp))
 have hr:=h.root
 rw [e] at hr ⊢
 rw [hr] at hv
 rw [rd_nat]
 unfold inW at hv
 have h2:(2:Int) ^ (1:Int).toNat=2:=by decide
 rw [h2] at hv
 omega
theorem FrOk.rootBit {q:List S66} {l:List S99} {ws:List Int} (h:FrOk q l ws) (hK:∀ j:Nat,j < l.length → -9223372036854775808≤(rd_T99 l (j:Int)).f2∧(rd_T99 l (j:Int)).f2≤9223372036854775807) (n t:Nat):rootF q l n t=0∨rootF q l n t=1 :=
 h.bit hK _ (xsF_length q n (t + 1)) (xsF_ok q ws n h.vars (t + 1))
noncomputable def tabF (q:List S66) (l:List S99):Int × ByteArray × Bool:=if frF q l=true∧swF q q.length 0≤12 then (swF q q.length 0,strOfNums (sgF q l (swF q q.length 0).toNat),true) else (0,⟨#[]⟩,false)
theorem fr_w {q:List S66} {l:List S99} {ws:List Int} (h:FrOk q l ws):∀ j:Nat,j < q.length→1≤(rd_T66 q (j:Int)).f2∧(rd_T66 q (j:Int)).f2≤8:=fun j hj=>(h.vars j hj).2.1
theorem fr_sum {q:List S66} {l:List S99} {ws:List Int} (h:FrOk q l ws):0≤swF q q.length 0:=sw_pos q (fr_w h) q.length 0 (by omega)
theorem bits_sum (q:List S66) (hq:q.length≤1048576) (hw:∀ j:Nat,j < q.length→1≤(rd_T66 q (j:Int)).f2∧(rd_T66 q (j:Int)).f2≤8):Ev (fun k=>spec_l05Bits.f k q) (swF q q.length 0):=by
 have main:∀ d i,i + d=q.length→∀ s:Int,0≤s→s≤8 * (i:Int)→Ev (fun k=>spec_l05Bits.l0 k q s (i:Int)) (s + swF q d i):=by
  intro d
  induction d with
  | zero =>
   intro i hi s h0 h1
   refine ev_succ ?_
   simp only [spec_l05Bits.l0,if_neg (show ¬ (i:Int) < (q.length:Int) by omega),swF,Int.add_zero]
   exact ev_some _
  | succ d ih =>
   intro i hi s h0 h1
   have hwi:=hw i (by omega)
   have e:=ih (i + 1) (by omega) (s + (rd_T66 q (i:Int)).f2) (by omega) (by push_cast;omega)
   refine ev_succ ?_
   simp only [spec_l05Bits.l0,if_pos (show (i:Int) < (q.length:Int) by omega),if_pos (show 0≤(i:Int) by omega),apIn,decide_eq_true hwi,Option.bind_some,if_true,w64s i (show i < 4611686018427387904 by omega),
    w64 (show -9223372036854775808≤s + (rd_T66 q (i:Int)).f2 by omega) (show s + (rd_T66 q (i:Int)).f2≤9223372036854775807 by omega),swF]
   rw [← Int.add_assoc]
   exact e
 have:=main q.length 0 (by omega) 0 (by omega) (by omega)
 rw [Int.zero_add] at this
 exact this
theorem tableI (q:List S66) (l:List S99) (hq:q.length≤1048576) (hl:l.length≤1048576) (hK:∀ j:Nat,j < l.length → -9223372036854775808≤(rd_T99 l (j:Int)).f2∧(rd_T99 l (j:Int)).f2≤9223372036854775807):Ev (fun k=>impl_TableOf.f k q l) (tabF q l):=by
 obtain ⟨v,v0,e1,e2,hv⟩:=bits_ev q hq
 unfold impl_TableOf.f
 refine ev_bind (f:=fun k n=>if n < 0 then some (0,(⟨#[]⟩:ByteArray),false) else (impl_FrontOk.f k q l).bind fun t=>if t=true then (if 0 < l.length∧l.length≤35184372088832 then (if 0≤IntKind.u64.wrap n then (if 0≤(wrap64 (2 ^ min (IntKind.u64.wrap n).toNat 64))∧(wrap64 (2 ^ min (IntKind.u64.wrap n).toNat 64)).toNat≤281474976710656 then (taO q l n k 0 (List.replicate (wrap64 (2 ^ min (IntKind.u64.wrap n).toNat 64)).toNat 0) (List.replicate 8 0)).bind fun vals=>some (n,strOfNums vals,true) else none) else none) else none) else some (0,(⟨#[]⟩:ByteArray),false)) e2 ?_
 unfold tabF
 by_cases h12:v > 12
 ·simp only [if_pos h12,if_pos (show (-1:Int) < 0 by decide)]
  rw [if_neg]
  ·exact ev_some _
  ·rintro ⟨hf,h⟩
   obtain ⟨ws,ok⟩:=fr_ok hf
   have hsum:=ev_one e1 (bits_sum q hq (fr_w ok))
   omega
 ·simp only [if_neg h12,if_neg (show ¬ v < 0 by omega)]
  refine ev_bind (f:=fun k t=>if t=true then (if 0 < l.length∧l.length≤35184372088832 then (if 0≤IntKind.u64.wrap v then (if 0≤(wrap64 (2 ^ min (IntKind.u64.wrap v).toNat 64))∧(wrap64 (2 ^ min (IntKind.u64.wrap v).toNat 64)).toNat≤281474976710656 then (taO q l v k 0 (List.replicate (wrap64 (2 ^ min (IntKind.u64.wrap v).toNat 64)).toNat 0) (List.replicate 8 0)).bind fun vals=>some (v,strOfNums vals,true) else none) else none) else none) else some (0,(⟨#[]⟩:ByteArray),false)) (frontI q l hq hl) ?_
  cases hf:frF q l with
  | false =>
   simp only [Bool.false_eq_true,if_false,false_and]
   exact ev_some _
  | true =>
   obtain ⟨ws,ok⟩:=fr_ok hf
   have hsum:=ev_one e1 (bits_sum q hq (fr_w ok))
   have hpos:=tm_pos ok.term
   obtain ⟨n,rfl⟩:=Int.eq_ofNat_of_zero_le v0
   have hn12:n≤12:=by omega
   have hN:2 ^ n≤4096:=Nat.le_trans (Nat.pow_le_pow_right (by decide) hn12) (by decide)
   have hwp:wrap64 (2 ^ min n 64)=((2 ^ n:Nat):Int):=by
    rw [Nat.min_eq_left (by omega),show (2:Int) ^ n=((2 ^ n:Nat):Int) from by norm_cast]
    generalize 2 ^ n=z at hN
    unfold wrap64
    omega
   simp only [if_true,true_and]
   rw [← hsum,if_pos (show (n:Int)≤12 by omega),Int.toNat_natCast,u64_of (by omega) (by omega),Int.toNat_natCast,hwp]
   simp only [if_pos (show 0 < l.length∧l.length≤35184372088832 by omega),if_pos (show (0:Int)≤(n:Int) by omega),Int.toNat_natCast,if_pos (show (0:Int)≤((2 ^ n:Nat):Int)∧2 ^ n≤281474976710656 from ⟨Int.natCast_nonneg _,Nat.le_trans hN (by decide)⟩)]
   refine ev_bind (f:=fun k vals=>some ((n:Int),strOfNums vals,true)) (taO_ev q l n hn12 hq (fr_w ok) (fun j hj=>(ok.vars j hj).1) hsum.symm ok.term hl ok.plain hK (fun t _=>ok.rootBit hK n t)) ?_
   exact ev_some _
theorem envOk_set {ws xs:List Int} (hx:xs.length=8) (h:envOk ws xs) (K:Int) (hK:0≤K) (v:Int) (hv:inW (rd ws K) v):envOk ws (xs.set K.toNat v):=by
 intro j hj
 rw [rd_nat (xs.set _ _),List.getD_eq_getElem?_getD,List.getElem?_set]
 by_cases e:K.toNat=j
 ·rw [if_pos e,if_pos (by omega),show ((j:Nat):Int)=K from by omega]
  exact hv
 ·rw [if_neg e,← List.getD_eq_getElem?_getD,← rd_nat]
  exact h j hj
theorem rtF_bit (v:Int) (h:v=0∨v=1):v=b01 (v == 1):=by rcases h with rfl|rfl <;> rfl
theorem holdsL (q:List S66) (l:List S99) (ws:List Int) (hq:q.length≤1048576) (i:Nat) (hi:i < q.length) (w:Nat) (h8:w≤8) (hw2:(rd_T66 q (i:Int)).f2=(w:Int)) (hv:0≤(rd_T66 q (i:Int)).f1∧(rd_T66 q (i:Int)).f1≤7) (hws:rd ws (rd_T66 q (i:Int)).f1=(rd_T66 q (i:Int)).f2) (xs:List Int) (P:Nat→Bool)
  (hf:∀ x:Nat,x < 2 ^ w→∀ zs:List Int,zs.length=8→envOk ws zs→eqv q (i + 1) zs (xs.set (rd_T66 q (i:Int)).f1.toNat (x:Int))→∃ ys,ys.length=8∧envOk ws ys∧eqv q (i + 1) ys zs∧Ev (fun k=>spec_l05Holds.f k q l zs ((i + 1:Nat):Int)) (b01 (P x),ys)) :
  ∀ e x:Nat,x + e=2 ^ w→∀ (zs:List Int) (A B r:Bool),zs.length=8→envOk ws zs→eqv q i zs xs→((rd_T66 q (i:Int)).f0=true→(r=true↔(A=true∧∀ y,x≤y→y < 2 ^ w→P y=true)))→((rd_T66 q (i:Int)).f0=false→(r=true↔(B=true∨∃ y,x≤y∧y < 2 ^ w∧P y=true))) →
   ∃ ys,ys.length=8∧envOk ws ys∧eqv q i ys xs∧Ev (fun k=>spec_l05Holds.l0 k q l zs (i:Int) (b01 A) (b01 B) (x:Int)) (b01 r,ys):=by
 have hW:2 ^ w≤256:=Nat.le_trans (Nat.pow_le_pow_right (by decide) h8) (by decide)
 have hpw:Ev (fun k=>spec_l01Pow2.f k (rd_T66 q (i:Int)).f2) ((2 ^ w:Nat):Int):=by
  rw [hw2]
  exact ev_ge w (fun k hk=>by rw [pow2_eq w (by omega) k hk];norm_cast)
 intro e
 induction e with
 | zero =>
  intro x hx zs A B r hz hze hzq h1 h2
  refine ⟨zs,hz,hze,hzq,ev_succ ?_⟩
  simp only [spec_l05Holds.l0,if_pos (show 0≤(i:Int) by omega),if_pos (show (i:Int) < (q.length:Int) by omega)]
  refine ev_bind hpw ?_
  simp only [if_neg (show ¬ (x:Int) < ((2 ^ w:Nat):Int) by omega)]
  cases hF:(rd_T66 q (i:Int)).f0 with
  | true =>
   have:r=A:=by
    have h:=h1 hF
    cases A with
    | true=>exact h.2 ⟨rfl,fun y h1 h2=>by omega⟩
    | false =>
     cases r with
     | false=>rfl
     | true=>exact absurd (h.1 rfl).1 (by decide)
   simp only [if_true]
   rw [this]
   exact ev_some _
  | false =>
   have:r=B:=by
    have h:=h2 hF
    cases B with
    | true=>exact h.2 (Or.inl rfl)
    | false =>
     cases r with
     | false=>rfl
     | true =>
      rcases h.1 rfl with h | ⟨y,h3,h4,_⟩
      ·cases h
      ·omega
   simp only [Bool.false_eq_true,if_false]
   rw [this]
   exact ev_some _
 | succ e ih =>
  intro x hx zs A B r hz hze hzq h1 h2
  have hin:inW (rd ws (rd_T66 q (i:Int)).f1) (x:Int):=by
   rw [hws,hw2]
   refine ⟨Int.natCast_nonneg _,?_⟩
   rw [Int.toNat_natCast]
   have:x < 2 ^ w:=by omega
   exact_mod_cast this
  obtain ⟨ys,hy,hye,hyq,ev⟩:=hf x (by omega) (zs.set (rd_T66 q (i:Int)).f1.toNat (x:Int)) (by rw [List.length_set];exact hz) (envOk_set hz hze _ hv.1 _ hin) (eqv_set hzq _)
  have hyq2:eqv q i ys xs:=eqv_trans (eqv_drop hi hyq) hzq
  have key:∃ us,us.length=8∧envOk ws us∧eqv q i us xs∧Ev (fun k=>spec_l05Holds.l0 k q l ys (i:Int) (b01 (A && P x)) (b01 (B || P x)) ((x + 1:Nat):Int)) (b01 r,us):=by
   refine ih (x + 1) (by omega) ys _ _ r hy hye hyq2 (fun hF=>?_) (fun hF=>?_)
   ·rw [h1 hF,Bool.and_eq_true]
    constructor
    ·rintro ⟨h3,h4⟩
     exact ⟨⟨h3,h4 x (Nat.le_refl _) (by omega)⟩,fun y h5 h6=>h4 y (by omega) h6⟩
    ·rintro ⟨⟨h3,h4⟩,h5⟩
     refine ⟨h3,fun y h6 h7=>?_⟩
     rcases Nat.eq_or_lt_of_le h6 with rfl|h8
     ·exact h4
     ·exact h5 y (by omega) h7
   ·rw [h2 hF,Bool.or_eq_true]
    constructor
    ·rintro (h3 | ⟨y,h4,h5,h6⟩)
     ·exact Or.inl (Or.inl h3)
     ·rcases Nat.eq_or_lt_of_le h4 with rfl|h8
      ·exact Or.inl (Or.inr h6)
      ·exact Or.inr ⟨y,by omega,h5,h6⟩
    ·rintro ((h3|h3) | ⟨y,h4,h5,h6⟩)
     ·exact Or.inl h3
     ·exact Or.inr ⟨x,Nat.le_refl _,by omega,h3⟩
     ·exact Or.inr ⟨y,by omega,h5,h6⟩
  obtain ⟨us,hu,hue,huq,ev2⟩:=key
  refine ⟨us,hu,hue,huq,ev_succ ?_⟩
  simp only [spec_l05Holds.l0,if_pos (show 0≤(i:Int) by omega),if_pos (show (i:Int) < (q.length:Int) by omega)]
  refine ev_bind hpw ?_
  simp only [if_pos (show (x:Int) < ((2 ^ w:Nat):Int) by omega),if_pos hv.1,if_pos (show (rd_T66 q (i:Int)).f1 < (zs.length:Int) by omega),w64s i (show i < 4611686018427387904 by omega),w64s x (show x < 4611686018427387904 by omega)]
  refine ev_bind ev ?_
  cases hP:P x with
  | true =>
   rw [hP,Bool.and_true,Bool.or_true] at ev2
   simp only [if_pos (show b01 true=1 from rfl)]
   exact ev2
  | false =>
   rw [hP,Bool.and_false,Bool.or_false] at ev2
   simp only [if_neg (show ¬ b01 false=1 by decide)]
   exact ev2
theorem holdsS (q:List S66) (l:List S99) (ws:List Int) (ok:FrOk q l ws) (hq:q.length≤1048576) (hl:l.length≤1048576) (hK:∀ j:Nat,j < l.length → -9223372036854775808≤(rd_T99 l (j:Int)).f2∧(rd_T99 l (j:Int)).f2≤9223372036854775807) :
  ∀ d i,i + d=q.length→∀ (b:Nat),swF q d i=(b:Int)→∀ xs:List Int,xs.length=8→envOk ws xs→∃ ys,ys.length=8∧envOk ws ys∧eqv q i ys xs∧Ev (fun k=>spec_l05Holds.f k q l xs (i:Int)) (b01 (dec (rwF q d i) (lfF q l d i b xs)),ys):=by
 have hpos:=tm_pos ok.term
 have hwl:wrap64 ((l.length:Int) - 1)=(l.length:Int) - 1:=by unfold wrap64;omega
 intro d
 induction d with
 | zero =>
  intro i hi b hb xs hx he
  refine ⟨xs,hx,he,eqv_refl q i xs,ev_succ ?_⟩
  simp only [spec_l05Holds.f,if_pos (show (i:Int)=(q.length:Int) by omega),hwl]
  obtain rfl:b=0:=by simp only [swF] at hb;omega
  have e:b01 (dec (rwF q 0 i) (lfF q l 0 i 0 xs))=rtF l xs:=by
   simp only [rwF,dec,lfF,tiF]
   exact (rtF_bit _ (ok.bit hK xs hx he)).symm
  rw [e]
  exact ev_bind (atS l ok.term hl xs hx ok.plain hK) (ev_some _)
 | succ d ih =>
  intro i hi b hb xs hx he
  obtain ⟨h2,h1,hws⟩:=ok.vars i (by omega)
  have h3:=sw_pos q (fr_w ok) d (i + 1) (by omega)
  simp only [swF] at hb
  obtain ⟨w,hw2⟩:=Int.eq_ofNat_of_zero_le (show 0≤(rd_T66 q (i:Int)).f2 by omega)
  obtain ⟨m,hm⟩:=Int.eq_ofNat_of_zero_le h3
  obtain rfl:b=w + m:=by omega
  have hslc:∀ x,x < 2 ^ w→slc (lfF q l (d + 1) i (w + m) xs) m x=lfF q l d (i + 1) m (xs.set (rd_T66 q (i:Int)).f1.toNat (x:Int)):=fun x hx=>lfF_slc q (fr_w ok) l d i hi w m hw2 hm xs x hx
  have key:=holdsL q l ws hq i (by omega) w (by omega) hw2 h2 hws xs (fun x=>dec (rwF q d (i + 1)) (lfF q l d (i + 1) m (xs.set (rd_T66 q (i:Int)).f1.toNat (x:Int)))) (fun x hx zs hz hze hzq=>by
   obtain ⟨ys,g1,g2,g3,g4⟩:=ih (i + 1) (by omega) m hm zs hz hze
   rw [lfF_eqv (by omega) hzq] at g4
   exact ⟨ys,g1,g2,g3,g4⟩) (2 ^ w) 0 (by omega) xs true false (dec (rwF q (d + 1) i) (lfF q l (d + 1) i (w + m) xs)) hx he (eqv_refl q i xs)
   (fun hF=>by
    simp only [rwF]
    rw [hF,hw2,Int.toNat_natCast,dec_all _ m w _ (lfF_length q l (d + 1) i (w + m) xs)]
    constructor
    ·intro h
     exact ⟨by trivial,fun y _ hy=>by rw [← hslc y hy];exact h y hy⟩
    ·rintro ⟨_,h⟩ y hy
     rw [hslc y hy]
     exact h y (Nat.zero_le _) hy)
   (fun hF=>by
    simp only [rwF]
    rw [hF,hw2,Int.toNat_natCast,dec_any _ m w _ (lfF_length q l (d + 1) i (w + m) xs)]
    constructor
    ·rintro ⟨y,hy,h⟩
     exact Or.inr ⟨y,Nat.zero_le _,hy,by rw [← hslc y hy];exact h⟩
    ·rintro (h | ⟨y,_,hy,h⟩)
     ·cases h
     ·exact ⟨y,hy,by rw [hslc y hy];exact h⟩)
  obtain ⟨ys,g1,g2,g3,g4⟩:=key
  refine ⟨ys,g1,g2,g3,ev_succ ?_⟩
  simp only [spec_l05Holds.f,if_neg (show ¬ (i:Int)=(q.length:Int) by omega)]
  exact g4
theorem rwF_length (q:List S66) (hw:∀ j:Nat,j < q.length→1≤(rd_T66 q (j:Int)).f2∧(rd_T66 q (j:Int)).f2≤8):∀ d i,i + d=q.length→((rwF q d i).length:Int)=swF q d i:=by
 intro d
 induction d with
 | zero=>intro i _;rfl
 | succ d ih =>
  intro i hi
  have h:=ih (i + 1) (by omega)
  have h1:=hw i (by omega)
  simp only [rwF,swF,List.length_append,List.length_replicate]
  omega
theorem rowsI (q:List S66) (hq:q.length≤1048576) (hw:∀ j:Nat,j < q.length→1≤(rd_T66 q (j:Int)).f2∧(rd_T66 q (j:Int)).f2≤8) (h12:swF q q.length 0≤12):Ev (fun k=>impl_Rows.f k q) (rwF q q.length 0):=by
 obtain ⟨v,v0,e1,e2,hv⟩:=bits_ev q hq
 have hs:=ev_one e1 (bits_sum q hq hw)
 subst hs
 unfold impl_Rows.f
 simp only [Option.bind_some]
 refine ev_bind (f:=fun k t104=>if t104 < 0 then (some ([]:List Bool)) else (impl_Rows.l0 k [] q (q.length:Int) 0)) e2 ?_
 simp only [if_neg (show ¬ swF q q.length 0 > 12 by omega),if_neg (show ¬ swF q q.length 0 < 0 by omega)]
 have inner:∀ (i:Nat) (r:List Bool) (w:Nat),w≤8→(∀ acc:List Bool,acc.length≤8 * (i + 1)→Ev (fun k=>impl_Rows.l0 k acc q (q.length:Int) (wrap64 ((i:Int) + 1))) (acc ++ r))→∀ (a:Bool) (x y:Int),∀ e j,j + e=w→∀ acc:List Bool,acc.length≤8 * i + j→i≤1048576→Ev (fun k=>impl_Rows.l1 k acc q (q.length:Int) (i:Int) (w:Int) (j:Int) a x y) (acc ++ (List.replicate e a ++ r)):=by
  intro i r w h8 hn a x y e
  induction e with
  | zero =>
   intro j hj acc ha hi2
   refine ev_succ ?_
   simp only [impl_Rows.l1,if_neg (show ¬ (j:Int) < (w:Int) by omega)]
   exact hn acc (by omega)
  | succ e ih =>
   intro j hj acc ha hi2
   refine ev_succ ?_
   simp only [impl_Rows.l1,if_pos (show (j:Int) < (w:Int) by omega),if_pos (show acc.length < 140737488355328 by omega),w64s j (show j < 4611686018427387904 by omega)]
   have:=ih (j + 1) (by omega) (acc ++ [a]) (by simp;omega) hi2
   rw [List.append_assoc] at this
   exact this
 have main:∀ d i,i + d=q.length→∀ acc:List Bool,acc.length≤8 * i→Ev (fun k=>impl_Rows.l0 k acc q (q.length:Int) (i:Int)) (acc ++ rwF q d i):=by
  intro d
  induction d with
  | zero =>
   intro i hi acc ha
   refine ev_succ ?_
   simp only [impl_Rows.l0,if_neg (show ¬ (i:Int) < (q.length:Int) by omega),rwF,List.append_nil]
   exact ev_some _
  | succ d ih =>
   intro i hi acc ha
   have h1:=hw i (by omega)
   obtain ⟨w,hw2⟩:=Int.eq_ofNat_of_zero_le (show 0≤(rd_T66 q (i:Int)).f2 by omega)
   refine ev_succ ?_
   simp only [impl_Rows.l0,if_pos (show (i:Int) < (q.length:Int) by omega),if_pos (show 0≤(i:Int) by omega),rwF]
   rw [hw2,Int.toNat_natCast]
   exact inner i (rwF q d (i + 1)) w (by omega) (fun acc ha=>by rw [w64s i (by omega)];exact ih (i + 1) (by omega) acc (by omega)) _ _ _ w 0 (by omega) acc (by omega) (by omega)
 have:=main q.length 0 (by omega) [] (by simp)
 rw [List.nil_append] at this
 exact this
theorem xsF_eqv (q:List S66) (n:Nat):∀ t,eqv q 0 (xsF q n t) (List.replicate 8 0):=by
 intro t
 induction t with
 | zero=>exact eqv_refl _ _ _
 | succ t ih=>exact eqv_trans (tiF_back q t q.length 0 (by omega) n _) ih
theorem sg_ones {q:List S66} {l:List S99} {ws:List Int} (ok:FrOk q l ws) (hK:∀ j:Nat,j < l.length → -9223372036854775808≤(rd_T99 l (j:Int)).f2∧(rd_T99 l (j:Int)).f2≤9223372036854775807) (n:Nat):strOfNums (sgF q l n)=ones (lfF q l q.length 0 n (List.replicate 8 0)):=by
 rw [← strOfNums_ones]
 congr 1
 unfold sgF lfF
 rw [List.map_map]
 refine List.map_congr_left fun t _=>?_
 have e:rootF q l n t=rtF l (tiF q t q.length 0 n (List.replicate 8 0)):=by
  unfold rootF rtF
  simp only [xsF]
  rw [tiF_eqv q t q.length 0 (by omega) n _ _ (xsF_eqv q n t)]
 have hb:=ok.rootBit hK n t
 rw [e] at hb ⊢
 show 48 + rtF l _=sgn (rtF l _ == 1)
 rcases hb with h|h <;> rw [h] <;> rfl
noncomputable def holF (q:List S66) (l:List S99):Int × Bool:=if frF q l=true∧swF q q.length 0≤12 then (b01 (dec (rwF q q.length 0) (lfF q l q.length 0 (swF q q.length 0).toNat (List.replicate 8 0))),true) else (0,false)
theorem holdsI (q:List S66) (l:List S99) (hq:q.length≤1048576) (hl:l.length≤1048576) (hK:∀ j:Nat,j < l.length → -9223372036854775808≤(rd_T99 l (j:Int)).f2∧(rd_T99 l (j:Int)).f2≤9223372036854775807):Ev (fun k=>impl_HoldsFront.f k q l) (holF q l):=by
 unfold impl_HoldsFront.f
 refine ev_bind (f:=fun k bt101=>if bt101.2.2=true then ((impl_Rows.f k q).bind fun t105=>((impl_Decide.f k t105 bt101.1 bt101.2.1).bind fun bt108=>(some (bt108.1,bt108.2)))) else (some (0,false))) (tableI q l hq hl hK) ?_
 unfold tabF holF
 by_cases h:frF q l=true∧swF q q.length 0≤12
 ·rw [if_pos h,if_pos h]
  obtain ⟨ws,ok⟩:=fr_ok h.1
  have hs:=fr_sum ok
  obtain ⟨n,hn⟩:=Int.eq_ofNat_of_zero_le hs
  have hrl:=rwF_length q (fr_w ok) q.length 0 (by omega)
  simp only [if_true]
  refine ev_bind (f:=fun k t105=>(impl_Decide.f k t105 (swF q q.length 0) (strOfNums (sgF q l (swF q q.length 0).toNat))).bind fun bt108=>(some (bt108.1,bt108.2))) (rowsI q hq (fr_w ok) h.2) ?_
  rw [sg_ones ok hK,hn,Int.toNat_natCast]
  have hlen:=lfF_length q l q.length 0 n (List.replicate 8 0)
  have hN:2 ^ n≤4096:=pow12 (by omega)
  generalize lfF q l q.length 0 n (List.replicate 8 0)=L at hlen
  have hd:Ev (fun k=>impl_Decide.f k (rwF q q.length 0) (n:Int) (ones L)) (decT (rwF q q.length 0) (n:Int) (ones L)):=ev_ge _ (impl_Decide_eq _ _ _ (by rw [ones_size];omega))
  refine ev_bind (f:=fun k bt108=>some (bt108.1,bt108.2)) hd ?_
  unfold decT
  rw [tok_ones (by omega) hlen,show (((rwF q q.length 0).length:Int) == (n:Int))=true from beq_iff_eq.2 (by omega),flags_ones]
  exact ev_some _
 ·rw [if_neg h,if_neg h]
  simp only [Bool.false_eq_true,if_false]
  exact ev_some _
theorem holdsFS (q:List S66) (l:List S99) (hq:q.length≤1048576) (hl:l.length≤1048576) (hK:∀ j:Nat,j < l.length → -9223372036854775808≤(rd_T99 l (j:Int)).f2∧(rd_T99 l (j:Int)).f2≤9223372036854775807):Ev (fun k=>spec_HoldsFront.f k q l) (holF q l):=by
 have stop:Ev (fun k=>spec_HoldsFront.j0 k q l true) (0,false):=ev_succ (by simp only [spec_HoldsFront.j0,if_true];exact ev_some _)
 unfold spec_HoldsFront.f
 refine ev_bind (f:=fun k t101=>if t101=true then ((spec_l05Bits.f k q).bind fun t102=>(spec_HoldsFront.j0 k q l (decide (t102 > 12)))) else (spec_HoldsFront.j0 k q l true)) (frontS q l hq hl) ?_
 unfold holF
 cases hf:frF q l with
 | false =>
  simp only [Bool.false_eq_true,if_false,false_and]
  exact stop
 | true =>
  obtain ⟨ws,ok⟩:=fr_ok hf
  simp only [if_true,true_and]
  refine ev_bind (f:=fun k t102=>spec_HoldsFront.j0 k q l (decide (t102 > 12))) (bits_sum q hq (fr_w ok)) ?_
  have hs:=fr_sum ok
  obtain ⟨n,hn⟩:=Int.eq_ofNat_of_zero_le hs
  by_cases h12:swF q q.length 0≤12
  ·rw [if_pos h12,decide_eq_false (show ¬ swF q q.length 0 > 12 by omega)]
   refine ev_succ ?_
   simp only [spec_HoldsFront.j0,Bool.false_eq_true,if_false]
   refine ev_bind (f:=fun k t103=>(spec_l05Holds.f k q l t103 0).bind fun bt106=>(some (bt106.1,true))) zeros_ev ?_
   obtain ⟨ys,_,_,_,e⟩:=holdsS q l ws ok hq hl hK q.length 0 (by omega) n hn (List.replicate 8 0) (by simp) (envOk_zero ws)
   rw [hn,Int.toNat_natCast]
   exact ev_bind (f:=fun k bt106=>some (bt106.1,true)) e (ev_some _)
  ·rw [if_neg h12,decide_eq_true (show swF q q.length 0 > 12 by omega)]
   exact stop
theorem cvN_K' (l:List S101) (hw:∀ x_∈l,((Lit.int .i64 x_.f0).wf=true∧(Lit.int .i64 x_.f1).wf=true∧(Lit.int .i64 x_.f2).wf=true∧(Lit.int .i64 x_.f3).wf=true∧(Lit.int .i64 x_.f4).wf=true∧(Lit.int .i64 x_.f5).wf=true)) :
  ∀ j:Nat,j < (cvN l).length → -9223372036854775808≤(rd_T99 (cvN l) (j:Int)).f2∧(rd_T99 (cvN l) (j:Int)).f2≤9223372036854775807:=by
 intro j hj
 rw [rdN_nat,getD_lt _ j _ hj]
 rw [cvN_length] at hj
 simp only [cvN,List.getElem_map]
 exact wfi (hw _ (List.getElem_mem hj)).2.2.1
theorem FnExactHoldsFront_pure:∀ (l0:List S97) (l1:List S101),(l0.length≤maxLen∧∀ x_∈l0,(True∧(Lit.int .i64 x_.f1).wf=true∧(Lit.int .i64 x_.f2).wf=true))→(l1.length≤maxLen∧∀ x_∈l1,((Lit.int .i64 x_.f0).wf=true∧(Lit.int .i64 x_.f1).wf=true∧(Lit.int .i64 x_.f2).wf=true∧(Lit.int .i64 x_.f3).wf=true∧(Lit.int .i64 x_.f4).wf=true∧(Lit.int .i64 x_.f5).wf=true))→∃ k,laws_FnExactHoldsFront.f k l0 l1=some true:=by
 intro q l ⟨hq,_⟩ ⟨hl,hw⟩
 simp only [maxLen] at hq hl
 refine ev_rounds ?_
 have e1:wrap64 (1048576 - (q.length:Int))=1048576 - (q.length:Int):=by unfold wrap64;omega
 simp only [laws_FnExactHoldsFront.f,laws_szQuantS.f,e1]
 by_cases h1:1048576 - (q.length:Int) < 0
 ·simp only [if_pos h1,Option.bind_some,if_pos (show (-1:Int) < 0 by decide)]
  exact ev_some _
 simp only [if_neg h1,Option.bind_some,laws_szNodeS.f]
 have e2:wrap64 (1048576 - (q.length:Int) - (l.length:Int))=1048576 - (q.length:Int) - (l.length:Int):=by unfold wrap64;omega
 simp only [e2]
 by_cases h2:1048576 - (q.length:Int) - (l.length:Int) < 0
 ·simp only [if_pos h2,Option.bind_some,if_pos (show (-1:Int) < 0 by decide)]
  exact ev_some _
 simp only [if_neg h2,Option.bind_some]
 have hq2:q.length≤1048576:=by omega
 have hl2:l.length≤1048576:=by omega
 have cq:=toQuantS_ev q hq2
 have cl:=toNodeS_ev l hl2
 have hqc:(cvQ q).length≤1048576:=by rw [cvQ_length];exact hq2
 have hlc:(cvN l).length≤1048576:=by rw [cvN_length];exact hl2
 refine ev_bind cq (ev_bind cl (ev_bind (holdsFS (cvQ q) (cvN l) hqc hlc (cvN_K' l hw)) (ev_bind cq (ev_bind cl (ev_bind (holdsI (cvQ q) (cvN l) hqc hlc (cvN_K' l hw)) ?_)))))
 simp only [if_true,bne_self_eq_false]
 refine ev_succ ?_
 simp only [laws_FnExactHoldsFront.j0,Bool.false_eq_true,if_false]
 refine ev_bind cq (ev_bind (eqQuantS_ev (cvQ q) hqc) ?_)
 simp only [if_true]
 refine ev_bind cl (ev_bind (eqNodeS_ev (cvN l) hlc) ?_)
 simp only [if_true]
 exact ev_some _
end Go.Proofs.Ythipjoioicmcnaa.Pure
namespace Go.Proofs.Ythipjoioicmcnaa.Open
open Go.Deep Go.ChangeShapes Go.WideShapes Go.RowKit Go.Proofs.YthipjoioicmcnaaW.PrintWords
def Opens {α:Type} (P:Program) (t:TypeId) (d:Kd α) (ok:α→Prop):Prop :=
 ∀ (H:Type) (enc:TypeId × Value→H) (w:World) (base:Nat) (spare:Nat→Bool) (held:Bool) (fuel:Nat) (cs:List Value) (x:DataW H × List MemPlace),
  DataW.trod enc P w base spare held fuel t cs=some x→∃ a,d.K w a cs∧ok a
def FOpens {α:Type} (P:Program) (fs:List Field) (off:Nat) (d:Kd α) (ok:α→Prop):Prop :=
 ∀ (H:Type) (enc:TypeId × Value→H) (w:World) (base:Nat) (spare:Nat→Bool) (held:Bool) (fuel:Nat) (cs:List Value),
  (∀ f∈fs,∃ x,DataW.trod enc P w base spare held fuel f.type ((cs.drop f.offset).take (P.cellsOf f.type))=some x)→∃ a,d.K w a ((cs.drop off).take d.sz)∧ok a
theorem opens_int {P:Program} {t:TypeId} {k:IntKind} (hu:P.underlying t=some (.int k)):Opens P t (Kd.int k) (fun a=>(Lit.int k a).wf=true):=by
 intro H enc w base spare held fuel cs x h
 obtain ⟨n,rfl,_,hw⟩:=DataW.trod_int hu h
 exact ⟨n,rfl,hw⟩
theorem opens_bool {P:Program} {t:TypeId} (hu:P.underlying t=some .bool):Opens P t Kd.bool (fun _=>True):=by
 intro H enc w base spare held fuel cs x h
 obtain ⟨n,rfl,_⟩:=DataW.trod_bool hu h
 exact ⟨n,rfl,trivial⟩
theorem list_of {α:Type} {p:Nat→α→Prop}:∀ n,(∀ i,i < n→∃ a,p i a)→∃ l:List α,l.length=n∧∀ i a,l[i]? = some a→p i a
 | 0,_=>⟨[],rfl,fun i a h=>by simp at h⟩
 | n + 1,h=>by
  obtain ⟨l,hl,hp⟩:=list_of n (fun i hi=>h i (by omega))
  obtain ⟨a,ha⟩:=h n (by omega)
  refine ⟨l ++ [a],by simp [hl],fun i b hb=>?_⟩
  rw [List.getElem?_append] at hb
  split at hb
  ·exact hp i b hb
  ·rename_i hi
   have e:i=n:=by
    rcases Nat.lt_or_ge (i - l.length) 1 with h1|h1
    ·omega
    ·rw [List.getElem?_eq_none (by simpa using h1)] at hb
     cases hb
   subst e
   rw [hl,Nat.sub_self] at hb
   cases hb
   exact ha
theorem opens_slice {α:Type} {P:Program} {t e:TypeId} {d:Kd α} {ok:α→Prop} (hu:P.underlying t=some (.slice e)) (hc:P.cellsOf e=d.sz) (h:Opens P e d ok) :
  Opens P t (Kd.slice e d) (fun l=>l.length≤maxLen∧∀ x∈l,ok x):=by
 intro H enc w base spare held fuel cs x hx
 rcases open_slice hu hx with ⟨rfl,rfl⟩ | ⟨a,len,cap,m,n,D,Pl,rfl,hb,hl,hm,hmm,rfl,hel⟩
 ·exact ⟨[],⟨none,0,rfl,Nat.le_refl _,rfl,by simp,fun h=>absurd h (by simp)⟩,by simp [maxLen],by simp⟩
 ·have hle:len≤m:=by rw [hmm];split <;> omega
  have hone:∀ i,i < len→∃ y:α,(∃ cs',w.cells? base (a.add (i * P.cellsOf e)) (P.cellsOf e)=some cs'∧d.K w y cs')∧ok y:=by
   intro i hi
   obtain ⟨cs',h1,h2⟩:=hel i (by omega)
   obtain ⟨y,hk,ho⟩:=h H enc w base spare held n cs' _ h2
   exact ⟨y,⟨cs',h1,hk⟩,ho⟩
  obtain ⟨l,hll,hp⟩:=list_of len hone
  subst hll
  refine ⟨l,⟨some a,cap,rfl,hl,rfl,by simp only [maxLen] at hm;omega,fun _=>⟨a,rfl,fun j p hj=>?_⟩⟩,by omega,?_⟩
  ·obtain ⟨⟨cs',h1,hk⟩,_⟩:=hp j p hj
   refine ⟨cs',d.K_len hk,hk,fun i u hu=>?_⟩
   have hlt:i < cs'.length:=by
    rcases Nat.lt_or_ge i cs'.length with h'|h'
    ·exact h'
    ·rw [List.getElem?_eq_none h'] at hu;cases hu
   have hlen:=d.K_len hk
   obtain ⟨_,hlen2,hcell⟩:=World.cells?_some h1
   rw [hc] at hcell
   have:=hcell i (by omega)
   rw [hu] at this
   rw [← Addr.add_add]
   exact this.symm ▸ rfl
  ·intro x hx
   obtain ⟨i,hi,rfl⟩:=List.getElem_of_mem hx
   exact (hp i _ (List.getElem?_eq_getElem hi)).2
theorem fopens_one {α:Type} {P:Program} {f:Field} {off:Nat} {d:Kd α} {ok:α→Prop} (ho:f.offset=off) (hc:P.cellsOf f.type=d.sz) (h:Opens P f.type d ok):FOpens P [f] off d ok:=by
 intro H enc w base spare held fuel cs hx
 obtain ⟨x,hx⟩:=hx f (by simp)
 rw [ho,hc] at hx
 exact h H enc w base spare held fuel _ x hx
theorem fopens_cons {α β:Type} {P:Program} {f:Field} {fs:List Field} {off:Nat} {d:Kd α} {d':Kd β} {ok:α→Prop} {ok':β→Prop} (ho:f.offset=off) (hc:P.cellsOf f.type=d.sz) (h:Opens P f.type d ok)
  (hs:FOpens P fs (off + d.sz) d' ok'):FOpens P (f :: fs) off (Kd.pair d d') (fun x=>ok x.1∧ok' x.2):=by
 intro H enc w base spare held fuel cs hx
 obtain ⟨a,ha,hoa⟩:=fopens_one ho hc h H enc w base spare held fuel cs (fun g hg=>hx g (by simp at hg;simp [hg]))
 obtain ⟨b,hb,hob⟩:=hs H enc w base spare held fuel cs (fun g hg=>hx g (by simp [hg]))
 refine ⟨(a,b),⟨_,_,?_,ha,hb⟩,hoa,hob⟩
 show (cs.drop off).take (d.sz + d'.sz)=_
 rw [List.take_add,List.drop_drop]
theorem opens_struct {α:Type} {P:Program} {t:TypeId} {fs:Array Field} {d:Kd α} {ok:α→Prop} (hu:P.underlying t=some (.struct fs)) (hc:P.cellsOf t=d.sz) (h:FOpens P fs.toList 0 d ok):Opens P t d ok:=by
 intro H enc w base spare held fuel cs x hx
 obtain ⟨xs,n,rfl,_,hlen,hxl,hf⟩:=DataW.trod_struct hu hx
 have:=h H enc w base spare held n cs (fun f hm=>by
  obtain ⟨i,hi,rfl⟩:=List.getElem_of_mem hm
  have hi':i < fs.size:=by simpa using hi
  have e:=hf i fs[i] (Array.getElem?_eq_getElem hi')
  rw [List.getElem?_eq_getElem (show i < xs.length by omega)] at e
  exact ⟨_,by simpa using e⟩)
 rw [List.drop_zero,List.take_of_length_le (by omega)] at this
 exact this
theorem opens_iso {α β:Type} {P:Program} {t:TypeId} {d:Kd α} {ok:α→Prop} (f:β→α) (g:α→β) (hfg:∀ a,f (g a)=a) (h:Opens P t d ok):Opens P t (Kd.iso d f) (fun x=>ok (f x)):=by
 intro H enc w base spare held fuel cs x hx
 obtain ⟨a,ha,ho⟩:=h H enc w base spare held fuel cs x hx
 exact ⟨g a,by show d.K w (f (g a)) cs;rw [hfg];exact ha,by show ok (f (g a));rw [hfg];exact ho⟩
end Go.Proofs.Ythipjoioicmcnaa.Open
namespace Go.Proofs.Ythipjoioicmcnaa.fnExactHoldsFront
open Go.ChangeShapes Go.WideShapes Go.ChangeAt Go.RowKit Go.Proofs.Ythipjoioicmcnaa.Open Go.Proofs.Ythipjoioicmcnaa.G Go.Proofs.YthipjoioicmcnaaW.PrintWords
open Go.ChangeMaps (open_string shut_string)
set_option linter.unusedVariables false
theorem own:ownKnob Try.prog.godebug=none:=by kernel_rfl
theorem laidOut:laidOutB Try.prog=true:=by kernel_rfl
set_option maxRecDepth 100000 in
theorem lifted (os:Os) (started:os.Started) (H:Type) (enc:TypeId × Value→H) :
  ReturnsInHanded {} Try.checked os 8 .any (Rows.fnExactHoldsFrontSpec.pre6 enc Try.prog Try.f8 Rows.fnExactHoldsFrontRow.domain false) (Rows.fnExactHoldsFrontSpec.post enc Try.prog Try.f8 false true false false):=by
 refine returnsInHanded_of_change (C:=Try.checked) own started (by kernel_rfl) Try.func8
  (ChangeSpec.witness6 (enc:=enc) (C:=Try.checked) false ⟨#[],#[.slice none 0 0,.slice none 0 0],[]⟩ 8 (by kernel_rfl) (by kernel_rfl) (by kernel_rfl) (by kernel_rfl)) ?_
 intro W base args ds gs before hval0 hW hcnd _
 have hval:∀ (j:Nat) t v,Try.f8.params[j]? = some t→args[j]? = some v→Value.okWide Try.prog W .any base t v:=hval0
 have hW':=hW
 obtain ⟨p,q,hA0,hV,rfl,hfz,hnd⟩:=hW
 have hA:DataW.TrodAll enc Try.prog W 0 (fun _=>true) true Try.f8.params.toList args.toList ds p:=hA0
 rw [Try.params8] at hA hval
 obtain ⟨v0,vs0,d0,ds0,p0,q0,hargs,rfl,rfl,h0,r0⟩:=trodAll_cons hA
 obtain ⟨v1,vs1,d1,ds1,p1,q1,rfl,rfl,rfl,h1,r1⟩:=trodAll_cons r0
 obtain ⟨rfl,rfl,rfl⟩:=trodAll_nil r1
 obtain rfl:args=#[v0,v1]:=by cases args;simp_all
 obtain ⟨rfl,rfl⟩:=trodVars_none hV
 have k0:=h0
 have lt0:∀ x∈p0,x.block < W.heap.size:=by obtain ⟨m,hm⟩:=k0;exact DataW.trod_lt m _ _ _ hm
 obtain ⟨fu0,hf0⟩:=h0
 obtain ⟨a0,len0,cap0,rfl⟩:=okWide_slice Try.underlying47 (hval 0 47 v0 rfl rfl)
 obtain ⟨l0,hk0,ok0⟩:=(opens_slice (d:=k97) Try.underlying47 (by kernel_rfl) (show Opens Try.prog 97 k97 _ from opens_iso _ (fun y=>⟨y.1,y.2.1,y.2.2⟩) (fun _=>rfl) (opens_struct Try.underlying97 (by kernel_rfl) (fopens_cons rfl (by kernel_rfl) (opens_bool Try.underlying4) (fopens_cons rfl (by kernel_rfl) (opens_int Try.underlying3) (fopens_one rfl (by kernel_rfl) (opens_int Try.underlying3))))))) _ enc W 0 _ true fu0 _ _ hf0
 obtain ⟨A0,c0,hcs0,hc0,hr0⟩:=hk0
 simp [Value.cells] at hcs0
 obtain ⟨rfl,rfl,rfl⟩:=hcs0
 have k1:=h1
 have lt1:∀ x∈p1,x.block < W.heap.size:=by obtain ⟨m,hm⟩:=k1;exact DataW.trod_lt m _ _ _ hm
 obtain ⟨fu1,hf1⟩:=h1
 obtain ⟨a1,len1,cap1,rfl⟩:=okWide_slice Try.underlying48 (hval 1 48 v1 rfl rfl)
 obtain ⟨l1,hk1,ok1⟩:=(opens_slice (d:=k101) Try.underlying48 (by kernel_rfl) (show Opens Try.prog 101 k101 _ from opens_iso _ (fun y=>⟨y.1,y.2.1,y.2.2.1,y.2.2.2.1,y.2.2.2.2.1,y.2.2.2.2.2⟩) (fun _=>rfl) (opens_struct Try.underlying101 (by kernel_rfl) (fopens_cons rfl (by kernel_rfl) (opens_int Try.underlying3) (fopens_cons rfl (by kernel_rfl) (opens_int Try.underlying3) (fopens_cons rfl (by kernel_rfl) (opens_int Try.underlying3) (fopens_cons rfl (by kernel_rfl) (opens_int Try.underlying3) (fopens_cons rfl (by kernel_rfl) (opens_int Try.underlying3) (fopens_one rfl (by kernel_rfl) (opens_int Try.underlying3)))))))))) _ enc W 0 _ true fu1 _ _ hf1
 obtain ⟨A1,c1,hcs1,hc1,hr1⟩:=hk1
 simp [Value.cells] at hcs1
 obtain ⟨rfl,rfl,rfl⟩:=hcs1
 clear hA0 hval0
 obtain ⟨k,hk⟩:=Pure.FnExactHoldsFront_pure l0 l1 ok0 ok1
 refine (laws_FnExactHoldsFront.calls k _ _ l0 _ _ l1 true W hr0 hc0 hr1 hc1 rfl hk).mono fun e W' ⟨he,bel0⟩=>?_
 have bel:Below W.heap.size W W':=bel0
 subst he
 exact ⟨_,rfl,_,_,_,[],_,[],hW',trodAll_mk1 (shut_bool Try.underlying4 _),(trodAll_cons_mk (Below.trod laidOut (by kernel_rfl) (of_decide_eq_true (by kernel_rfl)) k0 bel lt0) (trodAll_cons_mk (Below.trod laidOut (by kernel_rfl) (of_decide_eq_true (by kernel_rfl)) k1 bel lt1) trodAll_mk0)),rfl,bel.frame _,fun h=>by cases h⟩
theorem over:Rows.fnExactHoldsFrontRow.holds Try.pinned (OpenSpec.ofChange Rows.fnExactHoldsFrontSpec) :=
 OpenClaim.holds_of_wide 8 Try.f8 rfl rfl rfl rfl rfl rfl rfl ⟨rfl,rfl,rfl,rfl,rfl⟩ rfl rfl rfl rfl rfl (by kernel_rfl) Try.func8 (by kernel_rfl)
  (of_decide_eq_true (by kernel_rfl)) (by unfold Func.isWrapper;first|(rw [if_pos (by decide +kernel)];kernel_rfl)|(rw [if_neg (by decide +kernel)];exact ⟨rfl,rfl⟩))
  (fun os started H enc _=>lifted os started H enc)
theorem proved:Rows.FnExactHoldsFrontSaid:=over
end Go.Proofs.Ythipjoioicmcnaa.fnExactHoldsFront
namespace Go.Proofs.Ythipjoioicmcnaa
/-- The given statement. -/
theorem fnExactHoldsFront_holds:Rows.FnExactHoldsFrontSaid:=fnExactHoldsFront.proved
#print axioms fnExactHoldsFront_holds
end Go.Proofs.Ythipjoioicmcnaa
