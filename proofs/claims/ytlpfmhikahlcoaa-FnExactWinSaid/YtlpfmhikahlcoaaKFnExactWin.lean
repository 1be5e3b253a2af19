-- texts of this session, merged by a program of it (wip/gen/pack.py)
import Derived.Test.YtlpfmhikahlcoaaKFnExactWin9
import Derived.Test.YtlpfmhikahlcoaaKFnExactWin3
import Derived.Test.YtlpfmhikahlcoaaKFnExactWin4
import Derived.Test.YtlpfmhikahlcoaaKFnExactWin2
import Derived.Test.YtlpfmhikahlcoaaKFnExactWin5
import Derived.Test.YtlpfmhikahlcoaaKFnExactWin8
import Derived.ProofKit
import Derived.WalkKit
import Derived.Deep.Slices
import Derived.OpenShut
import Derived.ChangeVars
import Derived.ChangeOld
import Derived.Below
import Derived.Test.YtlpfmhikahlcoaaKFnExactWin1
import Derived.Test.YtlpfmhikahlcoaaRows
import Derived.ShutString
set_option linter.unusedSimpArgs false
set_option linter.unusedVariables false
namespace Go.Proofs.Ytlpfmhikahlcoaa.Pure
open Go.RowKit Go.Proofs.Ytlpfmhikahlcoaa.G Go.Proofs.YtlpfmhikahlcoaaW.PrintWords Go.Proofs.YtlpfmhikahlcoaaW.PrintLast Go.Proofs.YtlpfmhikahlcoaaW.PrintMore
theorem bits_snoc {vals:List Int} {y:Int} (h:∀ z∈vals,z=0∨z=1) (hy:y=0∨y=1):∀ z∈vals ++ [y],z=0∨z=1:=fun z hz=>by
 rcases List.mem_append.1 hz with h2|h2
 ·exact h z h2
 ·rw [List.mem_singleton.1 h2];exact hy
theorem win_few (v:Int) (r l:List Bool) (vals:List Int) (h:vals.length + r.length≤12) (hz:∀ z∈vals,z=0∨z=1):(winR v r l vals).length < 2 ^ r.length∧(winR v r l vals).length≤4096:=by
 have h1:=(win_small v r l vals (by omega) hz).1
 have h2:=pow12 (n:=r.length) (by omega)
 exact ⟨h1,by omega⟩
theorem spec_winR_ev (v:Int):∀ (r l:List Bool) (vals:List Int),r.length≤12→l.length=2 ^ r.length→vals.length + r.length≤12→(∀ z∈vals,z=0∨z=1) →
  Ev (fun k=>spec_l10Win.f k r (r.length:Int) (ones l) v vals) (winR v r l vals):=by
 intro r
 induction r with
 | nil =>
  intro l vals _ hl _ _
  refine ev_succ ?_
  simp only [spec_l10Win.f]
  refine ev_bind (spec_Known_c (n:=0) (by omega) hl) ?_
  simp only [if_pos (show knC l ≥ 0 from knC_one hl)]
  exact ev_some _
 | cons a r ih =>
  intro l vals hr hl hv hz
  have hr':r.length≤11:=by simpa using hr
  simp only [List.length_cons] at hl hv
  have hp:=pow12 (n:=r.length + 1) (by omega)
  refine ev_succ ?_
  simp only [spec_l10Win.f,List.length_cons]
  refine ev_bind (spec_Known_c (n:=r.length + 1) (by omega) hl) ?_
  unfold winR
  by_cases c:0≤knC l
  ·simp only [if_pos (show knC l ≥ 0 from c),if_pos c]
   exact ev_some _
  simp only [if_neg (show ¬ knC l ≥ 0 from c),if_neg c]
  have half:∀ h:Bool,Ev (fun k=>spec_Half.f k ((r.length + 1:Nat):Int) (ones l) (b01 h)) ((r.length:Int),ones (halfL l h),true):=by
   intro h
   have:=ev_ge _ (spec_Half_eq ((r.length + 1:Nat):Int) (ones l) (b01 h) (by rw [ones_size];omega))
   unfold halfT at this
   rw [tok_ones (by omega) hl,flags_ones,if_pos (by cases h <;> simp [b01] <;> omega),show (((r.length + 1:Nat):Int) - 1)=(r.length:Int) by omega,show (b01 h == 1)=h by cases h <;> rfl] at this
   exact this
  have cho:Ev (fun k=>spec_Choose.f k (a :: r) ((r.length + 1:Nat):Int) (ones l)) (b01 (dec r (halfL l false) != dec (a :: r) l),true):=by
   have:=ev_ge _ (spec_Choose_eq (a :: r) ((r.length + 1:Nat):Int) (ones l) (by rw [ones_size];omega))
   unfold choT at this
   rw [tok_ones (by omega) hl,flags_ones,if_pos (by simp <;> omega)] at this
   exact this
  refine ev_bind (half false) ?_
  refine ev_bind (half true) ?_
  have z2:∀ b:Bool,∀ z∈vals ++ [b01 b],z=0∨z=1:=fun b=>bits_snoc hz (by cases b <;> simp [b01])
  have few:∀ b:Bool,(winR v r (halfL l b) (vals ++ [b01 b])).length≤4096:=fun b=>(win_few v r _ _ (by simp;omega) (z2 b)).2
  have e:∀ b:Bool,Ev (fun k=>spec_l10Win.f k r (r.length:Int) (ones (halfL l b)) v (vals ++ [b01 b])) (winR v r (halfL l b) (vals ++ [b01 b])):=fun b=>ih (halfL l b) (vals ++ [b01 b]) (by omega) (halfL_len hl b) (by simp;omega) (z2 b)
  have e0:=e false
  have e1:=e true
  have f0:=few false
  have f1:=few true
  simp only [show b01 false=0 from rfl,show b01 true=1 from rfl] at e0 e1 f0 f1
  simp only [Option.bind_some,List.length_nil,Nat.zero_add,List.nil_append,if_pos (show vals.length < 17592186044416 by omega),if_pos (show vals.length + 1 < 17592186044416 by omega),List.length_singleton,if_pos (show 0 < ((r.length + 1:Nat):Int) by omega),if_pos (show 1≤((r.length + 1:Nat):Int) by omega),List.drop_succ_cons,List.drop_zero,show rdOf false (a :: r) 0=a from rfl]
  by_cases ca:(a == (v == 0))=true
  ·simp only [if_pos ca]
   refine ev_bind cho ?_
   generalize (dec r (halfL l false) != dec (a :: r) l)=b
   cases b with
   | true =>
    simp only [show b01 true=1 from rfl,if_true,Option.bind_some]
    refine ev_bind e1 ?_
    simp only [if_pos (show 1 + (winR v r (halfL l true) (vals ++ [1])).length < 4398046511104 by omega)]
    exact ev_some _
   | false =>
    simp only [show b01 false=0 from rfl,if_neg (show ¬ (0:Int)=1 by decide),Option.bind_some]
    refine ev_bind e0 ?_
    simp only [if_pos (show 1 + (winR v r (halfL l false) (vals ++ [0])).length < 4398046511104 by omega)]
    exact ev_some _
  ·simp only [if_neg ca]
   refine ev_bind e0 ?_
   refine ev_bind e1 ?_
   simp only [if_pos (show (winR v r (halfL l false) (vals ++ [0])).length + (winR v r (halfL l true) (vals ++ [1])).length < 4398046511104 by omega)]
   exact ev_some _
theorem choose_c (a:Bool) (r l:List Bool) (hr:r.length≤11) (hl:l.length=2 ^ (r.length + 1)):Ev (fun k=>impl_choose.f k (a :: r) ((r.length + 1:Nat):Int) (ones l)) (b01 (dec r (halfL l false) != dec (a :: r) l)):=by
 refine ev_ge (r.length + 5) (fun k hk=>?_)
 unfold impl_choose.f
 have e:=impl_decide_eq (a :: r) l (by simp;omega) hl k (by simp;omega)
 simp only [List.length_cons] at e
 rw [List.length_cons,if_pos (by omega),impl_half_eq r.length l (by omega) hl 0,Option.bind_some,e]
 simp only [List.drop_one,List.tail_cons]
 rw [impl_decide_eq r _ (by omega) (halfL_len hl _) k (by omega)]
 have e0:((0:Int) != 0)=false:=rfl
 rw [e0]
 generalize dec r (halfL l false)=p
 generalize dec (a :: r) l=q
 cases p <;> cases q <;> rfl
theorem impl_winR_ev {v:Int} (rr:List Bool) (hrr:rr.length≤12):∀ (d:Nat) (l:List Bool) (vals:List Int) (L:List S108),vals.length + d=rr.length→l.length=2 ^ d→(∀ z∈vals,z=0∨z=1)→L.length + 2 ^ d≤100000 →
  Ev (fun k=>wkF k rr (rr.map fun a=>a == (v == 0)) (d:Int) (ones l) vals L) (L ++ winR v (rr.drop vals.length) l vals):=by
 intro d
 induction d with
 | zero =>
  intro l vals L hv hl _ _
  refine ev_succ ?_
  simp only [wkF,impl_Table_known_eq,Option.bind_some]
  have hk:=knC_one hl
  unfold knC at hk
  simp only [if_pos hk]
  rw [List.drop_of_length_le (by omega),winR,List.append_nil]
  exact ev_some _
 | succ d ih =>
  intro l vals L hv hl hz hL
  have hil:vals.length < rr.length:=by omega
  have hd:rr.drop vals.length=rr.getD vals.length false :: rr.drop (vals.length + 1):=by rw [getD_lt rr _ _ hil,← List.drop_eq_getElem_cons]
  have hdl:(rr.drop (vals.length + 1)).length=d:=by simp;omega
  rw [Nat.pow_succ] at hL
  have hp:=Nat.one_le_two_pow (n:=d)
  refine ev_succ ?_
  simp only [wkF,impl_Table_known_eq,Option.bind_some]
  rw [hd]
  unfold winR
  by_cases c:0≤knC l
  ·have c':=c
   unfold knC at c'
   simp only [if_pos c',if_pos c,List.append_nil]
   exact ev_some _
  have c':=c
  unfold knC at c'
  simp only [if_neg c',if_neg c,List.length_map,if_pos hil]
  have hrd:rdOf false (rr.map fun a=>a == (v == 0)) (vals.length:Int)=(rr.getD vals.length false == (v == 0)):=by
   rw [rdOf_nat,List.getD_eq_getElem?_getD,List.getElem?_map,List.getElem?_eq_getElem hil,getD_lt rr _ _ hil]
   rfl
  have hcp:impl_copyInts.f vals=some vals:=by
   unfold impl_copyInts.f
   rw [if_pos (by simp;omega),List.nil_append]
  have e:∀ (y:Int) (b:Bool) (M:List S108),y=0∨y=1→M.length + 2 ^ d≤100000→Ev (fun k=>wkF k rr (rr.map fun a=>a == (v == 0)) (d:Int) (ones (halfL l b)) (vals ++ [y]) M) (M ++ winR v (rr.drop (vals.length + 1)) (halfL l b) (vals ++ [y])):=fun y b M hy hM=>by
   have:=ih (halfL l b) (vals ++ [y]) M (by simp;omega) (halfL_len hl b) (bits_snoc hz hy) hM
   rw [List.length_append,List.length_singleton] at this
   exact this
  have hh:∀ z:Int,impl_Table_half.f ((d + 1:Nat):Int) (ones l) z=some ((d:Int),ones (halfL l (z != 0))):=fun z=>impl_half_eq d l (by omega) hl z
  have lt:=win_few v (rr.drop (vals.length + 1)) (halfL l false) (vals ++ [0]) (by simp;omega) (bits_snoc hz (Or.inl rfl))
  rw [hdl] at lt
  simp only [hrd,hh,hcp,Option.bind_some,if_pos (show vals.length < 17592186044416 by omega)]
  cases ca:(rr.getD vals.length false == (v == 0)) with
  | false =>
   simp only [if_true,Bool.false_eq_true,if_false]
   refine ev_bind (e 0 false L (Or.inl rfl) (by omega)) ?_
   have:=e 1 true (L ++ winR v (rr.drop (vals.length + 1)) (halfL l false) (vals ++ [0])) (Or.inr rfl) (by rw [List.length_append];omega)
   rw [List.append_assoc] at this
   exact this
  | true =>
   simp only [Bool.true_eq_false,if_false,if_true,if_pos (show vals.length≤rr.length by omega)]
   have cho:=choose_c (rr.getD vals.length false) (rr.drop (vals.length + 1)) l (by omega) (by rw [hdl];exact hl)
   rw [hdl] at cho
   refine ev_bind cho ?_
   simp only [if_pos (show vals.length < 17592186044416∧L.length < 4398046511104 from ⟨by omega,by omega⟩)]
   generalize (dec (rr.drop (vals.length + 1)) (halfL l false) != dec (rr.getD vals.length false :: rr.drop (vals.length + 1)) l)=b
   have:=e (b01 b) b (L ++ [⟨vals,b01 b⟩]) (by cases b <;> simp [b01]) (by rw [List.length_append,List.length_singleton];omega)
   rw [List.append_assoc] at this
   have hb:(b01 b != 0)=b:=by cases b <;> rfl
   rw [hb]
   exact this
def winT (r:List Bool) (N:Int) (s:ByteArray):List S108 × Int × Bool:=if tok N s && ((r.length:Int) == N) then (winR (b01 (dec r (flags s))) r (flags s) [],b01 (dec r (flags s)),true) else ([],0,false)
theorem spec_Win_ev (r:List Bool) (N:Int) (s:ByteArray) (hs:s.size≤1099511627776):Ev (fun k=>spec_Win.f k r N s) (winT r N s):=by
 unfold spec_Win.f winT
 refine ev_bind (ev_ge _ (spec_Decide_eq r N s hs)) ?_
 unfold decT
 cases hb:tok N s && ((r.length:Int) == N) with
 | false=>simp only [Bool.false_eq_true,if_false];exact ev_some _
 | true =>
  simp only [Bool.and_eq_true,beq_iff_eq] at hb
  obtain ⟨n,l,rfl,hn,hl,rfl⟩:=tok_form hb.1
  have hrn:r.length=n:=by omega
  subst hrn
  simp only [if_true,flags_ones]
  exact ev_bind (spec_winR_ev _ r l [] hn hl (by simp;omega) (fun z hz=>by cases hz)) (ev_some _)
theorem impl_Win_ev (r:List Bool) (N:Int) (s:ByteArray) (hs:s.size≤1099511627776):Ev (fun k=>impl_Win.f k r N s) (winT r N s):=by
 unfold impl_Win.f winT
 refine ev_bind (ev_ge _ (impl_Decide_eq r N s hs)) ?_
 unfold decT
 cases hb:tok N s && ((r.length:Int) == N) with
 | false=>simp only [Bool.false_eq_true,if_false];exact ev_some _
 | true =>
  simp only [Bool.and_eq_true,beq_iff_eq] at hb
  obtain ⟨n,l,rfl,hn,hl,rfl⟩:=tok_form hb.1
  have hrn:r.length=n:=by omega
  subst hrn
  simp only [if_true,flags_ones]
  have eo:=ev_ge _ (impl_Owner_eq (b01 (dec r l)) r (by omega))
  unfold owner at eo
  rw [if_pos (by cases dec r l <;> simp [b01])] at eo
  refine ev_bind eo ?_
  have hp:=pow12 hn
  have:=impl_winR_ev (v:=b01 (dec r l)) r hn r.length l [] [] (by simp) hl (fun z hz=>by cases hz) (by simp;omega)
  refine ev_bind this ?_
  exact ev_some _
theorem winT_ok (r:List Bool) (N:Int) (s:ByteArray):okP (winT r N s).1∧(winT r N s).1.length≤4096∧∀ x∈(winT r N s).1,x.f0.length≤12:=by
 unfold winT
 cases hb:tok N s && ((r.length:Int) == N) with
 | false=>exact ⟨⟨Nat.zero_le _,fun x hx=>by cases hx⟩,Nat.zero_le _,fun x hx=>by cases hx⟩
 | true =>
  simp only [Bool.and_eq_true,beq_iff_eq] at hb
  obtain ⟨n,l,rfl,hn,hl,rfl⟩:=tok_form hb.1
  have hrn:r.length=n:=by omega
  subst hrn
  simp only [if_true,flags_ones]
  obtain ⟨h1,h2⟩:=win_small (b01 (dec r l)) r l [] (by simp;omega) (fun z hz=>by cases hz)
  have hp:=pow12 hn
  have wf:∀ z:Int,(z=0∨z=1)→(Lit.int .i64 z).wf=true:=fun z hz=>by rcases hz with rfl|rfl <;> decide
  exact ⟨⟨by omega,fun x hx=>⟨by have:=(h2 x hx).1;omega,fun z hz=>wf z ((h2 x hx).2.1 z hz),wf _ (h2 x hx).2.2⟩⟩,by omega,fun x hx=>(h2 x hx).1⟩
def markN (c n:Nat):List Int:=(List.range n).map fun i=>((c + i:Nat):Int)
theorem markN_ev (c:Nat) (l:List Int) (hc:c≤1099511627776) (hl:l.length≤1099511627776):Ev (fun k=>laws_markIntS.f k l (c:Int)) (((c + l.length:Nat):Int),markN c l.length):=by
 refine ev_ge l.length (fun k hk=>?_)
 unfold laws_markIntS.f
 have h:=rounds (fun k i=>laws_markIntS.l0 k ((markN c l.length).take i ++ l.drop i) ((c + i:Nat):Int) (i:Int)) l.length (((c + l.length:Nat):Int),markN c l.length) ?_ ?_ k hk
 ·simpa using h
 ·intro k i hi
  simp only [laws_markIntS.l0]
  rw [if_pos (by simp [markN];omega),if_pos (by omega),w64s i (by omega),w64s (c + i) (by omega),Int.toNat_natCast,set_front (markN c l.length) l i _ (by simp [markN]) hi (by simp [markN,hi])]
  rfl
 ·intro k
  simp only [laws_markIntS.l0]
  rw [if_neg (by simp [markN]),List.take_of_length_le (by simp [markN])]
  simp
theorem heldN_ev (c n:Nat) (hc:c≤1099511627776) (hn:n≤1099511627776):Ev (fun k=>laws_heldIntS.f k (markN c n) (c:Int)) ((c + n:Nat):Int):=by
 refine ev_ge n (fun k hk=>?_)
 unfold laws_heldIntS.f
 have h:=rounds (fun k i=>laws_heldIntS.l0 k (markN c n) ((c + i:Nat):Int) (i:Int)) n ((c + n:Nat):Int) ?_ ?_ k hk
 ·simpa using h
 ·intro k i hi
  simp only [laws_heldIntS.l0]
  rw [if_pos (by simp [markN];omega),if_pos (by omega),rd_nat,w64s i (by omega),w64s (c + i) (by omega),if_pos (by simp [markN,hi])]
  rfl
 ·intro k
  simp only [laws_heldIntS.l0]
  rw [if_neg (by simp [markN])]
def markP:List S108→Nat→List S108
 | [],_=>[]
 | x :: l,c=>⟨markN c x.f0.length,((c + x.f0.length:Nat):Int)⟩ :: markP l (c + x.f0.length + 1)
def endP:List S108→Nat→Nat
 | [],c=>c
 | x :: l,c=>endP l (c + x.f0.length + 1)
theorem rd_mid (D:List S108) (x:S108) (l:List S108):rd_T108 (D ++ x :: l) (D.length:Int)=x:=by
 rw [rdP_nat,getD_lt _ _ _ (by simp)]
 simp
theorem set_mid (D:List S108) (x y:S108) (l:List S108):(D ++ x :: l).set D.length y=(D ++ [y]) ++ l:=by simp
theorem markP_ev:∀ (l D:List S108) (c:Nat),(∀ x∈l,x.f0.length≤12)→c + 13 * l.length≤1099511627776→D.length + l.length≤1099511627776 →
  Ev (fun k=>mpF k (D ++ l) (c:Int) (D.length:Int)) (((endP l c:Nat):Int),D ++ markP l c):=by
 intro l
 induction l with
 | nil =>
  intro D c _ _ _
  refine ev_succ ?_
  simp only [mpF,markP,endP,List.append_nil,if_neg (show ¬ (D.length:Int) < (D.length:Int) by omega)]
  exact ev_some _
 | cons x l ih =>
  intro D c hx hc hD
  have h1:=hx x (List.mem_cons_self ..)
  simp only [List.length_cons] at hc hD
  refine ev_succ ?_
  simp only [mpF,if_pos (show (D.length:Int) < ((D ++ x :: l).length:Int) by simp;omega),if_pos (show 0≤(D.length:Int) by omega),rd_mid,Int.toNat_natCast]
  refine ev_bind (markN_ev c x.f0 (by omega) (by omega)) ?_
  simp only [set_mid,w64s D.length (show D.length < 4611686018427387904 by omega),w64s (c + x.f0.length) (show c + x.f0.length < 4611686018427387904 by omega)]
  have:=ih (D ++ [⟨markN c x.f0.length,((c + x.f0.length:Nat):Int)⟩]) (c + x.f0.length + 1) (fun y hy=>hx y (List.mem_cons_of_mem _ hy)) (by omega) (by simp;omega)
  rw [List.length_append,List.length_singleton] at this
  rw [show D ++ markP (x :: l) c=(D ++ [⟨markN c x.f0.length,((c + x.f0.length:Nat):Int)⟩]) ++ markP l (c + x.f0.length + 1) by simp [markP]]
  exact this
theorem heldP_ev:∀ (l D:List S108) (c:Nat),(∀ x∈l,x.f0.length≤12)→c + 13 * l.length≤1099511627776→D.length + l.length≤1099511627776 →
  Ev (fun k=>laws_heldPickS.l0 k (D ++ markP l c) (c:Int) (D.length:Int)) ((endP l c:Nat):Int):=by
 intro l
 induction l with
 | nil =>
  intro D c _ _ _
  refine ev_succ ?_
  simp only [laws_heldPickS.l0,markP,List.append_nil,if_neg (show ¬ (D.length:Int) < (D.length:Int) by omega)]
  exact ev_some _
 | cons x l ih =>
  intro D c hx hc hD
  have h1:=hx x (List.mem_cons_self ..)
  simp only [List.length_cons] at hc hD
  refine ev_succ ?_
  simp only [laws_heldPickS.l0,markP,if_pos (show (D.length:Int) < ((D ++ (⟨markN c x.f0.length,((c + x.f0.length:Nat):Int)⟩:S108) :: markP l (c + x.f0.length + 1)).length:Int) by simp;omega),if_pos (show 0≤(D.length:Int) by omega),rd_mid]
  refine ev_bind (heldN_ev c x.f0.length (by omega) (by omega)) ?_
  simp only [if_neg (show ¬ ((c + x.f0.length:Nat):Int) < 0 by omega),if_true,w64s D.length (show D.length < 4611686018427387904 by omega),w64s (c + x.f0.length) (show c + x.f0.length < 4611686018427387904 by omega)]
  have:=ih (D ++ [⟨markN c x.f0.length,((c + x.f0.length:Nat):Int)⟩]) (c + x.f0.length + 1) (fun y hy=>hx y (List.mem_cons_of_mem _ hy)) (by omega) (by simp;omega)
  rw [List.length_append,List.length_singleton,List.append_assoc] at this
  exact this
theorem FnExactWin_pure:∀ (l0:List Bool) (a1_0:Int) (a1_1:ByteArray),(l0.length≤maxLen∧∀ x_∈l0,True)→((Lit.int .i64 a1_0).wf=true∧a1_1.size≤maxLen)→∃ k,laws_FnExactWin.f k l0 a1_0 a1_1=some true:=by
 intro r N s _ ⟨_,hs⟩
 refine ev_rounds ?_
 unfold laws_FnExactWin.f
 by_cases hr:(r.length:Int) > 1048576
 ·simp only [if_pos hr];exact ev_some _
 simp only [if_neg hr,szTable_eq N s hs,Option.bind_some]
 by_cases h:(s.size:Int) > 1048576
 ·simp only [if_pos h,if_pos (show (-1:Int) < 0 by decide)];exact ev_some _
 simp only [if_neg h,if_neg (show ¬ (1048576 - (s.size:Int)) < 0 by omega)]
 have et:=ev_ge _ (toBoolS_eq r (by omega))
 have eb:=ev_ge _ (eqBoolS_self r (by omega))
 have em:=ev_ge _ (markBoolS_eq r (by omega))
 have es:=spec_Win_ev r N s (by omega)
 have ei:=impl_Win_ev r N s (by omega)
 obtain ⟨okp,h1,h2⟩:=winT_ok r N s
 have ep:=eqPickS_ev _ okp
 have ek:=markP_ev (winT r N s).1 [] 1 h2 (by omega) (by simp;omega)
 have eh:=heldP_ev (winT r N s).1 [] 1 h2 (by omega) (by simp;omega)
 simp only [List.nil_append,List.length_nil] at ek eh
 generalize winT r N s=T at es ei ep ek eh
 obtain ⟨P,v,b⟩:=T
 generalize hm:markP P 1=M at ek eh
 generalize he:endP P 1=E at ek eh
 have ej2:Ev (fun k=>laws_FnExactWin.j2 k M ((E:Nat):Int) false) true:=by
  refine ev_succ ?_
  simp only [laws_FnExactWin.j2,laws_heldPickS.f,Bool.false_eq_true,if_false]
  refine ev_bind eh ?_
  simp only [if_neg (show ¬ ((E:Nat):Int) < 0 by omega),if_true]
  exact ev_some _
 have ej1:Ev (fun k=>laws_FnExactWin.j1 k r P v b P false N s) true:=by
  refine ev_succ ?_
  simp only [laws_FnExactWin.j1,laws_markPickS.f,laws_heldPickS.f,laws_toTable.f,Option.bind_some,Bool.false_eq_true,if_false]
  refine ev_bind ek ?_
  refine ev_bind eh ?_
  simp only [if_neg (show ¬ ((E:Nat):Int) < 0 by omega),if_true]
  refine ev_bind et ?_
  refine ev_bind ei ?_
  refine ev_bind ep ?_
  simp only [if_true,bne_self_eq_false]
  exact ej2
 refine ev_bind et ?_
 simp only [laws_toTable.f,Option.bind_some]
 refine ev_bind es ?_
 refine ev_bind et ?_
 refine ev_bind ei ?_
 refine ev_bind ep ?_
 simp only [if_true,bne_self_eq_false]
 refine ev_succ ?_
 simp only [laws_FnExactWin.j0,Bool.false_eq_true,if_false]
 refine ev_bind et ?_
 refine ev_bind eb ?_
 simp only [if_true]
 refine ev_bind em ?_
 simp only [if_neg (show ¬ (((1 + r.length:Nat):Int) < 0) by omega)]
 refine ev_bind ep ?_
 simp only [if_true,bne_self_eq_false]
 exact ej1
end Go.Proofs.Ytlpfmhikahlcoaa.Pure
namespace Go.Proofs.Ytlpfmhikahlcoaa.Open
open Go.Deep Go.ChangeShapes Go.WideShapes Go.RowKit Go.Proofs.YtlpfmhikahlcoaaW.PrintWords
def Opens {α:Type} (P:Program) (t:TypeId) (d:Kd α) (ok:α→Prop):Prop :=
 ∀ (H:Type) (enc:TypeId × Value→H) (w:World) (base:Nat) (spare:Nat→Bool) (held:Bool) (fuel:Nat) (cs:List Value) (x:DataW H × List MemPlace),
  DataW.trod enc P w base spare held fuel t cs=some x→∃ a,d.K w a cs∧ok a
def FOpens {α:Type} (P:Program) (fs:List Field) (off:Nat) (d:Kd α) (ok:α→Prop):Prop :=
 ∀ (H:Type) (enc:TypeId × Value→H) (w:World) (base:Nat) (spare:Nat→Bool) (held:Bool) (fuel:Nat) (cs:List Value),
  (∀ f∈fs,∃ x,DataW.trod enc P w base spare held fuel f.type ((cs.drop f.offset).take (P.cellsOf f.type))=some x)→∃ a,d.K w a ((cs.drop off).take d.sz)∧ok a
theorem opens_int {P:Program} {t:TypeId} {k:IntKind} (hu:P.underlying t=some (.int k)):Opens P t (Kd.int k) (fun a=>(Lit.int k a).wf=true):=by
 intro H enc w base spare held fuel cs x h
 obtain ⟨n,rfl,_,hw⟩:=DataW.trod_int hu h
 exact ⟨n,rfl,hw⟩
theorem opens_bool {P:Program} {t:TypeId} (hu:P.underlying t=some .bool):Opens P t Kd.bool (fun _=>True):=by
 intro H enc w base spare held fuel cs x h
 obtain ⟨n,rfl,_⟩:=DataW.trod_bool hu h
 exact ⟨n,rfl,trivial⟩
theorem opens_string {P:Program} {t:TypeId} (hu:P.underlying t=some .string):Opens P t Kd.string (fun s=>s.size≤maxLen):=by
 intro H enc w base spare held fuel cs x h
 obtain ⟨n,rfl,_,hw⟩:=DataW.trod_string hu h
 exact ⟨n,rfl,hw⟩
theorem list_of {α:Type} {p:Nat→α→Prop}:∀ n,(∀ i,i < n→∃ a,p i a)→∃ l:List α,l.length=n∧∀ i a,l[i]? = some a→p i a
 | 0,_=>⟨[],rfl,fun i a h=>by simp at h⟩
 | n + 1,h=>by
  obtain ⟨l,hl,hp⟩:=list_of n (fun i hi=>h i (by omega))
  obtain ⟨a,ha⟩:=h n (by omega)
  refine ⟨l ++ [a],by simp [hl],fun i b hb=>?_⟩
  rw [List.getElem?_append] at hb
  split at hb
  ·exact hp i b hb
  ·rename_i hi
   have e:i=n:=by
    rcases Nat.lt_or_ge (i - l.length) 1 with h1|h1
    ·omega
    ·rw [List.getElem?_eq_none (by simpa using h1)] at hb
     cases hb
   subst e
   rw [hl,Nat.sub_self] at hb
   cases hb
   exact ha
theorem opens_slice {α:Type} {P:Program} {t e:TypeId} {d:Kd α} {ok:α→Prop} (hu:P.underlying t=some (.slice e)) (hc:P.cellsOf e=d.sz) (h:Opens P e d ok) :
  Opens P t (Kd.slice e d) (fun l=>l.length≤maxLen∧∀ x∈l,ok x):=by
 intro H enc w base spare held fuel cs x hx
 rcases open_slice hu hx with ⟨rfl,rfl⟩ | ⟨a,len,cap,m,n,D,Pl,rfl,hb,hl,hm,hmm,rfl,hel⟩
 ·exact ⟨[],⟨none,0,rfl,Nat.le_refl _,rfl,by simp,fun h=>absurd h (by simp)⟩,by simp [maxLen],by simp⟩
 ·have hle:len≤m:=by rw [hmm];split <;> omega
  have hone:∀ i,i < len→∃ y:α,(∃ cs',w.cells? base (a.add (i * P.cellsOf e)) (P.cellsOf e)=some cs'∧d.K w y cs')∧ok y:=by
   intro i hi
   obtain ⟨cs',h1,h2⟩:=hel i (by omega)
   obtain ⟨y,hk,ho⟩:=h H enc w base spare held n cs' _ h2
   exact ⟨y,⟨cs',h1,hk⟩,ho⟩
  obtain ⟨l,hll,hp⟩:=list_of len hone
  subst hll
  refine ⟨l,⟨some a,cap,rfl,hl,rfl,by simp only [maxLen] at hm;omega,fun _=>⟨a,rfl,fun j p hj=>?_⟩⟩,by omega,?_⟩
  ·obtain ⟨⟨cs',h1,hk⟩,_⟩:=hp j p hj
   refine ⟨cs',d.K_len hk,hk,fun i u hu=>?_⟩
   have hlt:i < cs'.length:=by
    rcases Nat.lt_or_ge i cs'.length with h'|h'
    ·exact h'
    ·rw [List.getElem?_eq_none h'] at hu;cases hu
   have hlen:=d.K_len hk
   obtain ⟨_,hlen2,hcell⟩:=World.cells?_some h1
   rw [hc] at hcell
   have:=hcell i (by omega)
   rw [hu] at this
   rw [← Addr.add_add]
   exact this.symm ▸ rfl
  ·intro x hx
   obtain ⟨i,hi,rfl⟩:=List.getElem_of_mem hx
   exact (hp i _ (List.getElem?_eq_getElem hi)).2
theorem fopens_one {α:Type} {P:Program} {f:Field} {off:Nat} {d:Kd α} {ok:α→Prop} (ho:f.offset=off) (hc:P.cellsOf f.type=d.sz) (h:Opens P f.type d ok):FOpens P [f] off d ok:=by
 intro H enc w base spare held fuel cs hx
 obtain ⟨x,hx⟩:=hx f (by simp)
 rw [ho,hc] at hx
 exact h H enc w base spare held fuel _ x hx
theorem fopens_cons {α β:Type} {P:Program} {f:Field} {fs:List Field} {off:Nat} {d:Kd α} {d':Kd β} {ok:α→Prop} {ok':β→Prop} (ho:f.offset=off) (hc:P.cellsOf f.type=d.sz) (h:Opens P f.type d ok)
  (hs:FOpens P fs (off + d.sz) d' ok'):FOpens P (f :: fs) off (Kd.pair d d') (fun x=>ok x.1∧ok' x.2):=by
 intro H enc w base spare held fuel cs hx
 obtain ⟨a,ha,hoa⟩:=fopens_one ho hc h H enc w base spare held fuel cs (fun g hg=>hx g (by simp at hg;simp [hg]))
 obtain ⟨b,hb,hob⟩:=hs H enc w base spare held fuel cs (fun g hg=>hx g (by simp [hg]))
 refine ⟨(a,b),⟨_,_,?_,ha,hb⟩,hoa,hob⟩
 show (cs.drop off).take (d.sz + d'.sz)=_
 rw [List.take_add,List.drop_drop]
theorem opens_struct {α:Type} {P:Program} {t:TypeId} {fs:Array Field} {d:Kd α} {ok:α→Prop} (hu:P.underlying t=some (.struct fs)) (hc:P.cellsOf t=d.sz) (h:FOpens P fs.toList 0 d ok):Opens P t d ok:=by
 intro H enc w base spare held fuel cs x hx
 obtain ⟨xs,n,rfl,_,hlen,hxl,hf⟩:=DataW.trod_struct hu hx
 have:=h H enc w base spare held n cs (fun f hm=>by
  obtain ⟨i,hi,rfl⟩:=List.getElem_of_mem hm
  have hi':i < fs.size:=by simpa using hi
  have e:=hf i fs[i] (Array.getElem?_eq_getElem hi')
  rw [List.getElem?_eq_getElem (show i < xs.length by omega)] at e
  exact ⟨_,by simpa using e⟩)
 rw [List.drop_zero,List.take_of_length_le (by omega)] at this
 exact this
theorem agg_of_cells {P:Program} {w:World} {r:Reach} {base:Nat} {t:TypeId} {fs:Array Field} {v:Value} {cs:List Value} (hu:P.underlying t=some (.struct fs)) (hv:Value.okWide P w r base t v) (hc:v.cells.toList=cs):v = .agg cs.toArray:=by
 obtain ⟨c,rfl,_⟩:=okWide_struct hu hv
 simp only [Value.cells] at hc
 subst hc
 simp
end Go.Proofs.Ytlpfmhikahlcoaa.Open
namespace Go.Proofs.Ytlpfmhikahlcoaa.fnExactWin
open Go.ChangeShapes Go.WideShapes Go.ChangeAt Go.RowKit Go.Proofs.Ytlpfmhikahlcoaa.Open Go.Proofs.Ytlpfmhikahlcoaa.G Go.Proofs.YtlpfmhikahlcoaaW.PrintWords
open Go.ChangeMaps (open_string shut_string)
set_option linter.unusedVariables false
theorem own:ownKnob Try.prog.godebug=none:=by kernel_rfl
theorem laidOut:laidOutB Try.prog=true:=by kernel_rfl
set_option maxRecDepth 100000 in
theorem lifted (os:Os) (started:os.Started) (H:Type) (enc:TypeId × Value→H) :
  ReturnsInHanded {} Try.checked os 12 .any (Rows.fnExactWinSpec.pre6 enc Try.prog Try.f12 Rows.fnExactWinRow.domain false) (Rows.fnExactWinSpec.post enc Try.prog Try.f12 false true false false):=by
 refine returnsInHanded_of_change (C:=Try.checked) own started (by kernel_rfl) Try.func12
  (ChangeSpec.witness6 (enc:=enc) (C:=Try.checked) false ⟨#[],#[.slice none 0 0,.agg #[.int .i64 0,.string ByteArray.empty]],[]⟩ 8 (by kernel_rfl) (by kernel_rfl) (by kernel_rfl) (by kernel_rfl)) ?_
 intro W base args ds gs before hval0 hW hcnd _
 have hval:∀ (j:Nat) t v,Try.f12.params[j]? = some t→args[j]? = some v→Value.okWide Try.prog W .any base t v:=hval0
 have hW':=hW
 obtain ⟨p,q,hA0,hV,rfl,hfz,hnd⟩:=hW
 have hA:DataW.TrodAll enc Try.prog W 0 (fun _=>true) true Try.f12.params.toList args.toList ds p:=hA0
 rw [Try.params12] at hA hval
 obtain ⟨v0,vs0,d0,ds0,p0,q0,hargs,rfl,rfl,h0,r0⟩:=trodAll_cons hA
 obtain ⟨v1,vs1,d1,ds1,p1,q1,rfl,rfl,rfl,h1,r1⟩:=trodAll_cons r0
 obtain ⟨rfl,rfl,rfl⟩:=trodAll_nil r1
 obtain rfl:args=#[v0,v1]:=by cases args;simp_all
 obtain ⟨rfl,rfl⟩:=trodVars_none hV
 have k0:=h0
 have lt0:∀ x∈p0,x.block < W.heap.size:=by obtain ⟨m,hm⟩:=k0;exact DataW.trod_lt m _ _ _ hm
 obtain ⟨fu0,hf0⟩:=h0
 obtain ⟨a0,len0,cap0,rfl⟩:=okWide_slice Try.underlying22 (hval 0 22 v0 rfl rfl)
 obtain ⟨l0,hk0,ok0⟩:=(opens_slice (d:=Kd.bool) Try.underlying22 (by kernel_rfl) (opens_bool Try.underlying4)) _ enc W 0 _ true fu0 _ _ hf0
 obtain ⟨A0,c0,hcs0,hc0,hr0⟩:=hk0
 simp [Value.cells] at hcs0
 obtain ⟨rfl,rfl,rfl⟩:=hcs0
 have k1:=h1
 have lt1:∀ x∈p1,x.block < W.heap.size:=by obtain ⟨m,hm⟩:=k1;exact DataW.trod_lt m _ _ _ hm
 obtain ⟨fu1,hf1⟩:=h1
 obtain ⟨⟨a1_0,a1_1⟩,hk1,ok1⟩:=(opens_struct Try.underlying24 (by kernel_rfl) (fopens_cons rfl (by kernel_rfl) (opens_int Try.underlying3) (fopens_one rfl (by kernel_rfl) (opens_string Try.underlying9)))) _ enc W 0 _ true fu1 _ _ hf1
 generalize hcs1:v1.cells.toList=cs1 at hk1
 obtain ⟨_,_,rfl,rfl,rfl⟩:=hk1
 obtain rfl:=agg_of_cells Try.underlying24 (hval 1 24 v1 rfl rfl) hcs1
 clear hA0 hval0
 obtain ⟨k,hk⟩:=Pure.FnExactWin_pure l0 a1_0 a1_1 ok0 ok1
 refine (laws_FnExactWin.calls k _ _ l0 a1_0 a1_1 true W hr0 hc0 rfl hk).mono fun e W' ⟨he,bel0⟩=>?_
 have bel:Below W.heap.size W W':=bel0
 subst he
 exact ⟨_,rfl,_,_,_,[],_,[],hW',trodAll_mk1 (shut_bool Try.underlying4 _),(trodAll_cons_mk (Below.trod laidOut (by kernel_rfl) (of_decide_eq_true (by kernel_rfl)) k0 bel lt0) (trodAll_cons_mk (Below.trod laidOut (by kernel_rfl) (of_decide_eq_true (by kernel_rfl)) k1 bel lt1) trodAll_mk0)),rfl,bel.frame _,fun h=>by cases h⟩
theorem over:Rows.fnExactWinRow.holds Try.pinned (OpenSpec.ofChange Rows.fnExactWinSpec) :=
 OpenClaim.holds_of_wide 12 Try.f12 rfl rfl rfl rfl rfl rfl rfl ⟨rfl,rfl,rfl,rfl,rfl⟩ rfl rfl rfl rfl rfl (by kernel_rfl) Try.func12 (by kernel_rfl)
  (of_decide_eq_true (by kernel_rfl)) (by unfold Func.isWrapper;first|(rw [if_pos (by decide +kernel)];kernel_rfl)|(rw [if_neg (by decide +kernel)];exact ⟨rfl,rfl⟩))
  (fun os started H enc _=>lifted os started H enc)
theorem proved:Rows.FnExactWinSaid:=over
end Go.Proofs.Ytlpfmhikahlcoaa.fnExactWin
namespace Go.Proofs.Ytlpfmhikahlcoaa
/-- The given statement. -/
theorem fnExactWin_holds:Rows.FnExactWinSaid:=fnExactWin.proved
#print axioms fnExactWin_holds
end Go.Proofs.Ytlpfmhikahlcoaa
