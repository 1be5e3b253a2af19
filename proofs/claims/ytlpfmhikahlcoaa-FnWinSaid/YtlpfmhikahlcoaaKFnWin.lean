-- texts of this session, merged by a program of it (wip/gen/pack.py)
import Derived.Test.YtlpfmhikahlcoaaKFnWin13
import Derived.Test.YtlpfmhikahlcoaaKFnWin4
import Derived.Test.YtlpfmhikahlcoaaKFnWin2
import Derived.Test.YtlpfmhikahlcoaaKFnWin8
import Derived.Test.YtlpfmhikahlcoaaKFnWin5
import Derived.Test.YtlpfmhikahlcoaaKFnWin11
import Derived.Test.YtlpfmhikahlcoaaKFnWin3
import Derived.Test.YtlpfmhikahlcoaaKFnWin7
import Derived.Test.YtlpfmhikahlcoaaKFnWin12
import Derived.ProofKit
import Derived.WalkKit
import Derived.Deep.Slices
import Derived.OpenShut
import Derived.ChangeVars
import Derived.ChangeOld
import Derived.Below
import Derived.Test.YtlpfmhikahlcoaaKFnWin1
import Derived.Test.YtlpfmhikahlcoaaRows
import Derived.ShutString
set_option linter.unusedSimpArgs false
set_option linter.unusedVariables false
namespace Go.Proofs.Ytlpfmhikahlcoaa.Pure
open Go.RowKit Go.Proofs.Ytlpfmhikahlcoaa.G Go.Proofs.Ytlpfmhikahlcoaa.Mp Go.Proofs.YtlpfmhikahlcoaaW.PrintWords Go.Proofs.YtlpfmhikahlcoaaW.PrintLast Go.Proofs.YtlpfmhikahlcoaaW.PrintMore
theorem bits_snoc {vals:List Int} {y:Int} (h:∀ z∈vals,z=0∨z=1) (hy:y=0∨y=1):∀ z∈vals ++ [y],z=0∨z=1:=fun z hz=>by
 rcases List.mem_append.1 hz with h2|h2
 ·exact h z h2
 ·rw [List.mem_singleton.1 h2];exact hy
theorem win_few (v:Int) (r l:List Bool) (vals:List Int) (h:vals.length + r.length≤12) (hz:∀ z∈vals,z=0∨z=1):(winR v r l vals).length < 2 ^ r.length∧(winR v r l vals).length≤4096:=by
 have h1:=(win_small v r l vals (by omega) hz).1
 have h2:=pow12 (n:=r.length) (by omega)
 exact ⟨h1,by omega⟩
theorem spec_winR_ev (v:Int):∀ (r l:List Bool) (vals:List Int),r.length≤12→l.length=2 ^ r.length→vals.length + r.length≤12→(∀ z∈vals,z=0∨z=1) →
  Ev (fun k=>spec_l10Win.f k r (r.length:Int) (ones l) v vals) (winR v r l vals):=by
 intro r
 induction r with
 | nil =>
  intro l vals _ hl _ _
  refine ev_succ ?_
  simp only [spec_l10Win.f]
  refine ev_bind (spec_Known_c (n:=0) (by omega) hl) ?_
  simp only [if_pos (show knC l ≥ 0 from knC_one hl)]
  exact ev_some _
 | cons a r ih =>
  intro l vals hr hl hv hz
  have hr':r.length≤11:=by simpa using hr
  simp only [List.length_cons] at hl hv
  have hp:=pow12 (n:=r.length + 1) (by omega)
  refine ev_succ ?_
  simp only [spec_l10Win.f,List.length_cons]
  refine ev_bind (spec_Known_c (n:=r.length + 1) (by omega) hl) ?_
  unfold winR
  by_cases c:0≤knC l
  ·simp only [if_pos (show knC l ≥ 0 from c),if_pos c]
   exact ev_some _
  simp only [if_neg (show ¬ knC l ≥ 0 from c),if_neg c]
  have half:∀ h:Bool,Ev (fun k=>spec_Half.f k ((r.length + 1:Nat):Int) (ones l) (b01 h)) ((r.length:Int),ones (halfL l h),true):=by
   intro h
   have:=ev_ge _ (spec_Half_eq ((r.length + 1:Nat):Int) (ones l) (b01 h) (by rw [ones_size];omega))
   unfold halfT at this
   rw [tok_ones (by omega) hl,flags_ones,if_pos (by cases h <;> simp [b01] <;> omega),show (((r.length + 1:Nat):Int) - 1)=(r.length:Int) by omega,show (b01 h == 1)=h by cases h <;> rfl] at this
   exact this
  have cho:Ev (fun k=>spec_Choose.f k (a :: r) ((r.length + 1:Nat):Int) (ones l)) (b01 (dec r (halfL l false) != dec (a :: r) l),true):=by
   have:=ev_ge _ (spec_Choose_eq (a :: r) ((r.length + 1:Nat):Int) (ones l) (by rw [ones_size];omega))
   unfold choT at this
   rw [tok_ones (by omega) hl,flags_ones,if_pos (by simp <;> omega)] at this
   exact this
  refine ev_bind (half false) ?_
  refine ev_bind (half true) ?_
  have z2:∀ b:Bool,∀ z∈vals ++ [b01 b],z=0∨z=1:=fun b=>bits_snoc hz (by cases b <;> simp [b01])
  have few:∀ b:Bool,(winR v r (halfL l b) (vals ++ [b01 b])).length≤4096:=fun b=>(win_few v r _ _ (by simp;omega) (z2 b)).2
  have e:∀ b:Bool,Ev (fun k=>spec_l10Win.f k r (r.length:Int) (ones (halfL l b)) v (vals ++ [b01 b])) (winR v r (halfL l b) (vals ++ [b01 b])):=fun b=>ih (halfL l b) (vals ++ [b01 b]) (by omega) (halfL_len hl b) (by simp;omega) (z2 b)
  have e0:=e false
  have e1:=e true
  have f0:=few false
  have f1:=few true
  simp only [show b01 false=0 from rfl,show b01 true=1 from rfl] at e0 e1 f0 f1
  simp only [Option.bind_some,List.length_nil,Nat.zero_add,List.nil_append,if_pos (show vals.length < 17592186044416 by omega),if_pos (show vals.length + 1 < 17592186044416 by omega),List.length_singleton,if_pos (show 0 < ((r.length + 1:Nat):Int) by omega),if_pos (show 1≤((r.length + 1:Nat):Int) by omega),List.drop_succ_cons,List.drop_zero,show rdOf false (a :: r) 0=a from rfl]
  by_cases ca:(a == (v == 0))=true
  ·simp only [if_pos ca]
   refine ev_bind cho ?_
   generalize (dec r (halfL l false) != dec (a :: r) l)=b
   cases b with
   | true =>
    simp only [show b01 true=1 from rfl,if_true,Option.bind_some]
    refine ev_bind e1 ?_
    simp only [if_pos (show 1 + (winR v r (halfL l true) (vals ++ [1])).length < 4398046511104 by omega)]
    exact ev_some _
   | false =>
    simp only [show b01 false=0 from rfl,if_neg (show ¬ (0:Int)=1 by decide),Option.bind_some]
    refine ev_bind e0 ?_
    simp only [if_pos (show 1 + (winR v r (halfL l false) (vals ++ [0])).length < 4398046511104 by omega)]
    exact ev_some _
  ·simp only [if_neg ca]
   refine ev_bind e0 ?_
   refine ev_bind e1 ?_
   simp only [if_pos (show (winR v r (halfL l false) (vals ++ [0])).length + (winR v r (halfL l true) (vals ++ [1])).length < 4398046511104 by omega)]
   exact ev_some _
theorem choose_c (a:Bool) (r l:List Bool) (hr:r.length≤11) (hl:l.length=2 ^ (r.length + 1)):Ev (fun k=>impl_choose.f k (a :: r) ((r.length + 1:Nat):Int) (ones l)) (b01 (dec r (halfL l false) != dec (a :: r) l)):=by
 refine ev_ge (r.length + 5) (fun k hk=>?_)
 unfold impl_choose.f
 have e:=impl_decide_eq (a :: r) l (by simp;omega) hl k (by simp;omega)
 simp only [List.length_cons] at e
 rw [List.length_cons,if_pos (by omega),impl_half_eq r.length l (by omega) hl 0,Option.bind_some,e]
 simp only [List.drop_one,List.tail_cons]
 rw [impl_decide_eq r _ (by omega) (halfL_len hl _) k (by omega)]
 have e0:((0:Int) != 0)=false:=rfl
 rw [e0]
 generalize dec r (halfL l false)=p
 generalize dec (a :: r) l=q
 cases p <;> cases q <;> rfl
theorem impl_winR_ev {v:Int} (rr:List Bool) (hrr:rr.length≤12):∀ (d:Nat) (l:List Bool) (vals:List Int) (L:List S108),vals.length + d=rr.length→l.length=2 ^ d→(∀ z∈vals,z=0∨z=1)→L.length + 2 ^ d≤100000 →
  Ev (fun k=>wkF k rr (rr.map fun a=>a == (v == 0)) (d:Int) (ones l) vals L) (L ++ winR v (rr.drop vals.length) l vals):=by
 intro d
 induction d with
 | zero =>
  intro l vals L hv hl _ _
  refine ev_succ ?_
  simp only [wkF,impl_Table_known_eq,Option.bind_some]
  have hk:=knC_one hl
  unfold knC at hk
  simp only [if_pos hk]
  rw [List.drop_of_length_le (by omega),winR,List.append_nil]
  exact ev_some _
 | succ d ih =>
  intro l vals L hv hl hz hL
  have hil:vals.length < rr.length:=by omega
  have hd:rr.drop vals.length=rr.getD vals.length false :: rr.drop (vals.length + 1):=by rw [getD_lt rr _ _ hil,← List.drop_eq_getElem_cons]
  have hdl:(rr.drop (vals.length + 1)).length=d:=by simp;omega
  rw [Nat.pow_succ] at hL
  have hp:=Nat.one_le_two_pow (n:=d)
  refine ev_succ ?_
  simp only [wkF,impl_Table_known_eq,Option.bind_some]
  rw [hd]
  unfold winR
  by_cases c:0≤knC l
  ·have c':=c
   unfold knC at c'
   simp only [if_pos c',if_pos c,List.append_nil]
   exact ev_some _
  have c':=c
  unfold knC at c'
  simp only [if_neg c',if_neg c,List.length_map,if_pos hil]
  have hrd:rdOf false (rr.map fun a=>a == (v == 0)) (vals.length:Int)=(rr.getD vals.length false == (v == 0)):=by
   rw [rdOf_nat,List.getD_eq_getElem?_getD,List.getElem?_map,List.getElem?_eq_getElem hil,getD_lt rr _ _ hil]
   rfl
  have hcp:impl_copyInts.f vals=some vals:=by
   unfold impl_copyInts.f
   rw [if_pos (by simp;omega),List.nil_append]
  have e:∀ (y:Int) (b:Bool) (M:List S108),y=0∨y=1→M.length + 2 ^ d≤100000→Ev (fun k=>wkF k rr (rr.map fun a=>a == (v == 0)) (d:Int) (ones (halfL l b)) (vals ++ [y]) M) (M ++ winR v (rr.drop (vals.length + 1)) (halfL l b) (vals ++ [y])):=fun y b M hy hM=>by
   have:=ih (halfL l b) (vals ++ [y]) M (by simp;omega) (halfL_len hl b) (bits_snoc hz hy) hM
   rw [List.length_append,List.length_singleton] at this
   exact this
  have hh:∀ z:Int,impl_Table_half.f ((d + 1:Nat):Int) (ones l) z=some ((d:Int),ones (halfL l (z != 0))):=fun z=>impl_half_eq d l (by omega) hl z
  have lt:=win_few v (rr.drop (vals.length + 1)) (halfL l false) (vals ++ [0]) (by simp;omega) (bits_snoc hz (Or.inl rfl))
  rw [hdl] at lt
  simp only [hrd,hh,hcp,Option.bind_some,if_pos (show vals.length < 17592186044416 by omega)]
  cases ca:(rr.getD vals.length false == (v == 0)) with
  | false =>
   simp only [if_true,Bool.false_eq_true,if_false]
   refine ev_bind (e 0 false L (Or.inl rfl) (by omega)) ?_
   have:=e 1 true (L ++ winR v (rr.drop (vals.length + 1)) (halfL l false) (vals ++ [0])) (Or.inr rfl) (by rw [List.length_append];omega)
   rw [List.append_assoc] at this
   exact this
  | true =>
   simp only [Bool.true_eq_false,if_false,if_true,if_pos (show vals.length≤rr.length by omega)]
   have cho:=choose_c (rr.getD vals.length false) (rr.drop (vals.length + 1)) l (by omega) (by rw [hdl];exact hl)
   rw [hdl] at cho
   refine ev_bind cho ?_
   simp only [if_pos (show vals.length < 17592186044416∧L.length < 4398046511104 from ⟨by omega,by omega⟩)]
   generalize (dec (rr.drop (vals.length + 1)) (halfL l false) != dec (rr.getD vals.length false :: rr.drop (vals.length + 1)) l)=b
   have:=e (b01 b) b (L ++ [⟨vals,b01 b⟩]) (by cases b <;> simp [b01]) (by rw [List.length_append,List.length_singleton];omega)
   rw [List.append_assoc] at this
   have hb:(b01 b != 0)=b:=by cases b <;> rfl
   rw [hb]
   exact this
def winT (r:List Bool) (N:Int) (s:ByteArray):List S108 × Int × Bool:=if tok N s && ((r.length:Int) == N) then (winR (b01 (dec r (flags s))) r (flags s) [],b01 (dec r (flags s)),true) else ([],0,false)
theorem spec_Win_ev (r:List Bool) (N:Int) (s:ByteArray) (hs:s.size≤1099511627776):Ev (fun k=>spec_Win.f k r N s) (winT r N s):=by
 unfold spec_Win.f winT
 refine ev_bind (ev_ge _ (spec_Decide_eq r N s hs)) ?_
 unfold decT
 cases hb:tok N s && ((r.length:Int) == N) with
 | false=>simp only [Bool.false_eq_true,if_false];exact ev_some _
 | true =>
  simp only [Bool.and_eq_true,beq_iff_eq] at hb
  obtain ⟨n,l,rfl,hn,hl,rfl⟩:=tok_form hb.1
  have hrn:r.length=n:=by omega
  subst hrn
  simp only [if_true,flags_ones]
  exact ev_bind (spec_winR_ev _ r l [] hn hl (by simp;omega) (fun z hz=>by cases hz)) (ev_some _)
theorem impl_Win_ev (r:List Bool) (N:Int) (s:ByteArray) (hs:s.size≤1099511627776):Ev (fun k=>impl_Win.f k r N s) (winT r N s):=by
 unfold impl_Win.f winT
 refine ev_bind (ev_ge _ (impl_Decide_eq r N s hs)) ?_
 unfold decT
 cases hb:tok N s && ((r.length:Int) == N) with
 | false=>simp only [Bool.false_eq_true,if_false];exact ev_some _
 | true =>
  simp only [Bool.and_eq_true,beq_iff_eq] at hb
  obtain ⟨n,l,rfl,hn,hl,rfl⟩:=tok_form hb.1
  have hrn:r.length=n:=by omega
  subst hrn
  simp only [if_true,flags_ones]
  have eo:=ev_ge _ (impl_Owner_eq (b01 (dec r l)) r (by omega))
  unfold owner at eo
  rw [if_pos (by cases dec r l <;> simp [b01])] at eo
  refine ev_bind eo ?_
  have hp:=pow12 hn
  have:=impl_winR_ev (v:=b01 (dec r l)) r hn r.length l [] [] (by simp) hl (fun z hz=>by cases hz) (by simp;omega)
  refine ev_bind this ?_
  exact ev_some _
theorem winT_ok (r:List Bool) (N:Int) (s:ByteArray):okP (winT r N s).1∧(winT r N s).1.length≤4096∧∀ x∈(winT r N s).1,x.f0.length≤12:=by
 unfold winT
 cases hb:tok N s && ((r.length:Int) == N) with
 | false=>exact ⟨⟨Nat.zero_le _,fun x hx=>by cases hx⟩,Nat.zero_le _,fun x hx=>by cases hx⟩
 | true =>
  simp only [Bool.and_eq_true,beq_iff_eq] at hb
  obtain ⟨n,l,rfl,hn,hl,rfl⟩:=tok_form hb.1
  have hrn:r.length=n:=by omega
  subst hrn
  simp only [if_true,flags_ones]
  obtain ⟨h1,h2⟩:=win_small (b01 (dec r l)) r l [] (by simp;omega) (fun z hz=>by cases hz)
  have hp:=pow12 hn
  have wf:∀ z:Int,(z=0∨z=1)→(Lit.int .i64 z).wf=true:=fun z hz=>by rcases hz with rfl|rfl <;> decide
  exact ⟨⟨by omega,fun x hx=>⟨by have:=(h2 x hx).1;omega,fun z hz=>wf z ((h2 x hx).2.1 z hz),wf _ (h2 x hx).2.2⟩⟩,by omega,fun x hx=>(h2 x hx).1⟩
end Go.Proofs.Ytlpfmhikahlcoaa.Pure
set_option linter.unusedSimpArgs false
set_option linter.unusedVariables false
namespace Go.Proofs.Ytlpfmhikahlcoaa.Pure
open Go.RowKit Go.Proofs.Ytlpfmhikahlcoaa.G Go.Proofs.YtlpfmhikahlcoaaW.PrintWords Go.Proofs.YtlpfmhikahlcoaaW.PrintLast Go.Proofs.YtlpfmhikahlcoaaW.PrintMore
def plc (l:List Int):Int:=l.foldl (fun a b=>2 * a + b) 0
def isBit (b:Int):Bool:=b == 0 || b == 1
theorem plc_snoc (l:List Int) (b:Int):plc (l ++ [b])=2 * plc l + b:=by simp [plc,List.foldl_append]
theorem plc_bd (l:List Int) (i:Nat) (hi:i≤l.length) (h:∀ j,j < i→isBit (l.getD j 0)=true):0≤plc (l.take i)∧plc (l.take i) < 2 ^ i:=by
 induction i with
 | zero=>simp [plc]
 | succ i ih =>
  obtain ⟨h0,h1⟩:=ih (by omega) (fun j hj=>h j (by omega))
  have hb:=h i (by omega)
  simp only [isBit,Bool.or_eq_true,beq_iff_eq] at hb
  rw [take_succ_getD l i 0 (by omega),plc_snoc,Int.pow_succ]
  omega
theorem all_getD (l:List Int) (p:Int→Bool):(List.range l.length).all (fun i=>p (l.getD i 0))=l.all p:=by
 rw [Bool.eq_iff_iff,List.all_eq_true,List.all_eq_true]
 constructor
 ·intro h x hx
  obtain ⟨i,hi,rfl⟩:=List.getElem_of_mem hx
  have:=h i (by simpa using hi)
  rwa [getD_lt l i 0 hi] at this
 ·intro h i hi
  have hi':i < l.length:=by simpa using hi
  rw [getD_lt l i 0 hi']
  exact h _ (List.getElem_mem hi')
theorem placeOfBits_eq (l:List Int) (hl:l.length≤60):∀ k,l.length < k→impl_placeOfBits.f k l=some (if l.all isBit then (plc l,true) else (0,false)):=by
 intro k hk
 unfold impl_placeOfBits.f
 rw [← all_getD l isBit]
 have h:=rounds_pre (fun k i=>impl_placeOfBits.l0 k (plc (l.take i)) l (l.length:Int) (i:Int)) l.length (fun i=>isBit (l.getD i 0)) (plc l,true) (0,false) ?_ ?_ ?_ k hk
 ·simpa [plc] using h
 ·intro k i hi hp hb
  simp only [isBit,Bool.or_eq_true,beq_iff_eq] at hb
  obtain ⟨h0,h1⟩:=plc_bd l i (by omega) hp
  have hw:=pow62 (n:=i) (by omega)
  simp only [impl_placeOfBits.l0]
  rw [if_pos (by omega),if_pos (by omega),if_pos (by omega),rd_nat,w64s i (by omega),take_succ_getD l i 0 hi,plc_snoc,w64 (n:=2 * plc (l.take i)) (by omega) (by omega),w64 (by omega) (by omega)]
  rcases hb with hb|hb
  ·rw [if_pos hb]
  ·rw [if_neg (by omega),if_pos hb]
 ·intro k i hi hp hb
  simp only [isBit,Bool.or_eq_false_iff,beq_eq_false_iff_ne] at hb
  simp only [impl_placeOfBits.l0]
  rw [if_pos (by omega),if_pos (by omega),if_pos (by omega),rd_nat,if_neg hb.1,if_neg hb.2]
 ·intro k hp
  simp only [impl_placeOfBits.l0]
  rw [if_neg (by omega),List.take_length]
def valAt (N:Int) (s:ByteArray) (l:List Int):Int:=if tok N s∧(l.length:Int)=N∧l.all isBit then bt s (plc l) - 48 else -1
theorem bt_digit {n:Nat} {l:List Bool} {x:Int} (h0:0≤x) (h1:x < l.length):bt (ones l) x=48∨bt (ones l) x=49:=by
 obtain ⟨i,rfl⟩:=Int.eq_ofNat_of_zero_le h0
 rw [bt_ones l i (by omega)]
 unfold sgn
 split <;> simp
theorem impl_TableAt_eq (N:Int) (s:ByteArray) (l:List Int) (hs:s.size≤1099511627776):∀ k,s.size + 40 < k→impl_TableAt.f k N s l=some (valAt N s l):=by
 intro k hk
 obtain ⟨k,rfl⟩:∃ m,k=m + 1:=⟨k - 1,by omega⟩
 unfold impl_TableAt.f
 rw [impl_TableOk_eq N s hs (k + 1) (by omega),Option.bind_some]
 cases ht:tok N s with
 | false=>simp [impl_TableAt.j0,valAt,ht]
 | true =>
  obtain ⟨n,t,rfl,hn,hl,rfl⟩:=tok_form ht
  rw [if_pos rfl]
  simp only [impl_TableAt.j0]
  by_cases hln:(l.length:Int)=(n:Int)
  ·rw [if_neg (by simp [hln]),placeOfBits_eq l (by omega) k (by omega),Option.bind_some]
   cases hb:l.all isBit with
   | false=>simp [valAt,hb]
   | true =>
    have hbd:=plc_bd l l.length (Nat.le_refl _) (fun j hj=>List.all_eq_true.1 hb _ (by rw [getD_lt l j 0 hj];exact List.getElem_mem hj))
    rw [List.take_length] at hbd
    have h2:((t.length:Nat):Int)=2 ^ l.length:=by rw [hl,show l.length=n by omega];norm_cast
    have hd:=bt_digit (n:=n) (l:=t) hbd.1 (by omega)
    simp only [if_true]
    rw [if_pos hbd.1,if_pos (by rw [ones_size];omega),valAt,if_pos ⟨ht,hln,hb⟩]
    congr 1
    omega
  ·rw [if_pos (by simpa using hln),valAt,if_neg (fun h=>hln h.2.1)]
theorem wraps_i64 (n:Int) (h₀:0≤n) (h₁:n < 2 ^ 62):IntKind.i64.wrap n=n:=by rw [IntKind.wrap_i64];omega
theorem and255 (x:Int):0≤Go.bits .and .i64 x 255∧Go.bits .and .i64 x 255≤255:=by
 simp only [Go.bits,BitVec.toNat_and]
 have h:(BitVec.ofInt IntKind.i64.bits x).toNat &&& (BitVec.ofInt IntKind.i64.bits 255).toNat≤255:=Nat.le_trans Nat.and_le_right (by decide)
 rw [wraps_i64 _ (by omega) (by omega)]
 omega
def stOk (b:List Int) (i:Int):Prop:=0≤i∧i≤b.length∧b.length≤1099511627776
theorem byte_ok {b:List Int} {i:Int} (h:Int) (hi:stOk b i):∃ v i' h',spec_l01Byte.f b i h=some (v,i',h')∧0≤v∧v≤255∧stOk b i':=by
 unfold spec_l01Byte.f
 obtain ⟨h0,h1,h2⟩:=hi
 by_cases hc:i < (b.length:Int)
 ·rw [if_pos hc,if_pos h0]
  exact ⟨_,_,_,rfl,(and255 _).1,(and255 _).2,by rw [w64 (by omega) (by omega)];exact ⟨by omega,by omega,h2⟩⟩
 ·rw [if_neg hc]
  exact ⟨_,_,_,rfl,(and255 _).1,(and255 _).2,h0,h1,h2⟩
theorem below_ok {b:List Int} {i:Int} (h a:Int) (hi:stOk b i) (h0:0 < a) (h1:a≤256):∃ v i' h',spec_l01Below.f b i h a=some (v,i',h')∧0≤v∧v < a∧stOk b i':=by
 unfold spec_l01Below.f
 obtain ⟨v,i',h',e,hv0,hv1,hi'⟩:=byte_ok h hi
 rw [if_neg (by omega),if_pos h1,e,Option.bind_some,if_neg (by omega)]
 refine ⟨_,_,_,rfl,?_,?_,hi'⟩
 ·simp only;rw [Int.tmod_eq_emod_of_nonneg hv0];exact Int.emod_nonneg _ (by omega)
 ·simp only;rw [Int.tmod_eq_emod_of_nonneg hv0];exact Int.emod_lt_of_pos _ h0
theorem once_ok {b:List Int} {i:Int} (h a:Int) (hi:stOk b i) (h0:0 < a) (h1:a≤256):∃ t i' h',spec_l01Once.f b i h a=some (t,i',h')∧stOk b i':=by
 unfold spec_l01Once.f
 obtain ⟨v,i',h',e,_,_,hi'⟩:=below_ok h a hi h0 h1
 rw [e,Option.bind_some]
 exact ⟨_,_,_,rfl,hi'⟩
theorem pickInt_ok {b:List Int} {i:Int} (h:Int) (l:List Int) (hi:stOk b i) (h0:0 < l.length) (h1:l.length≤256):∃ v i' h',spec_l01PickInt.f b i h l=some (v,i',h')∧v∈l∧stOk b i':=by
 unfold spec_l01PickInt.f
 obtain ⟨v,i',h',e,hv0,hv1,hi'⟩:=below_ok h (l.length:Int) hi (by omega) (by omega)
 rw [e,Option.bind_some]
 obtain ⟨n,rfl⟩:=Int.eq_ofNat_of_zero_le hv0
 rw [if_pos (by simp),if_pos (by simpa using hv1),rd_nat,getD_lt l n 0 (by omega)]
 exact ⟨_,_,_,rfl,List.getElem_mem _,hi'⟩
theorem st_zero {b:List Int} (hb:b.length≤1099511627776):stOk b 0:=⟨by omega,by omega,hb⟩
theorem table_fill (n:Int) (b:List Int) (i h:Int) (xs:List Int) (hx:xs.length≤4096):∀ k,xs.length < k→spec_l06Table.l1 k n xs 0 b i h=some (n,ones (List.replicate xs.length true),i,h):=by
 intro k hk
 rw [← strOfNums_ones,List.map_replicate]
 have h1:=rounds (fun k j=>spec_l06Table.l1 k n ((List.replicate xs.length (sgn true)).take j ++ xs.drop j) (j:Int) b i h) xs.length (n,strOfNums (List.replicate xs.length (sgn true)),i,h) ?_ ?_ k hk
 ·simpa using h1
 ·intro k j hj
  simp only [spec_l06Table.l1]
  rw [if_pos (by simp;omega),if_pos (by omega),w64s j (by omega),Int.toNat_natCast,show (49:Int)=sgn true from rfl,set_front (List.replicate xs.length (sgn true)) xs j (sgn true) (by simp) hj (by simp [hj])]
 ·intro k
  simp only [spec_l06Table.l1]
  rw [if_neg (by simp),List.take_of_length_le (by simp)]
  simp
theorem bit_sgn {v:Int} (h0:0≤v) (h1:v < 2):wrap64 (48 + v) % 256=sgn (v == 1):=by
 rcases (show v=0∨v=1 by omega) with h|h <;> subst h <;> decide +kernel
theorem pow_cast' (j:Nat):(2:Int) ^ j=((2 ^ j:Nat):Int):=by norm_cast
theorem new_ev (b:List Int) (hb:b.length≤1099511627776):∃ h,Ev (fun k=>spec_l01New.f k b) (b,0,h):=by
 have H:∀ d (i:Nat) h,i + d=b.length→∃ h',Ev (fun k=>spec_l01New.l0 k b h (i:Int)) (b,0,h'):=by
  intro d
  induction d with
  | zero =>
   intro i h hi
   refine ⟨?w0,ev_succ ?p0⟩
   case p0 =>
    simp only [spec_l01New.l0,if_neg (show ¬ (i:Int) < (b.length:Int) by omega)]
    exact ev_some _
  | succ d ih =>
   intro i h hi
   by_cases h4:(i:Int) < 4000
   ·have hh:=fun z=>ih (i + 1) z (by omega)
    refine ⟨?w1,ev_succ ?p1⟩
    case p1 =>
     simp only [spec_l01New.l0,if_pos (show (i:Int) < (b.length:Int) by omega),if_pos h4,if_pos (show 0≤(i:Int) by omega),w64s i (show i < 4611686018427387904 by omega)]
     exact (hh _).choose_spec
   ·refine ⟨?w2,ev_succ ?p2⟩
    case p2 =>
     simp only [spec_l01New.l0,if_pos (show (i:Int) < (b.length:Int) by omega),if_neg h4]
     exact ev_some _
 exact H b.length 0 _ (by omega)
theorem table_ev (n:Nat) (hn:n≤12) {b:List Int} {i:Int} (h:Int) (hi:stOk b i):∃ l i' h',Ev (fun k=>spec_l06Table.f k b i h (n:Int)) ((n:Int),ones l,i',h')∧l.length=2 ^ n∧stOk b i':=by
 have hp:=pow12 hn
 have pw:Ev (fun k=>spec_l01Pow2.f k (n:Int)) ((2 ^ n:Nat):Int):=ev_ge n (fun k hk=>by rw [pow2_eq n (by omega) k hk,pow_cast'])
 have H:∀ d (j:Nat) (acc:List Bool) (m i h:Int),j + d=2 ^ n→acc.length=j→stOk b i→∃ l i' h',Ev (fun k=>spec_l06Table.l0 k (n:Int) (acc.map sgn) m (j:Int) b i h) ((n:Int),ones l,i',h')∧l.length=2 ^ n∧stOk b i':=by
  intro d
  induction d with
  | zero =>
   intro j acc m i h hj ha hi
   obtain ⟨t,i',h',e,hi'⟩:=once_ok h 8 hi (by omega) (by omega)
   cases t
   ·refine ⟨acc,i',h',ev_succ ?_,by omega,hi'⟩
    simp only [spec_l06Table.l0]
    refine ev_bind pw ?_
    simp only [if_neg (show ¬ (j:Int) < ((2 ^ n:Nat):Int) by omega),e,Option.bind_some,Bool.false_eq_true,if_false,strOfNums_ones]
    exact ev_some _
   ·refine ⟨List.replicate (acc.map sgn).length true,i',h',ev_succ ?_,by simp;omega,hi'⟩
    simp only [spec_l06Table.l0]
    refine ev_bind pw ?_
    simp only [if_neg (show ¬ (j:Int) < ((2 ^ n:Nat):Int) by omega),e,Option.bind_some,if_true]
    exact ev_ge _ (table_fill (n:Int) b i' h' (acc.map sgn) (by simp;omega))
  | succ d ih =>
   intro j acc m i h hj ha hi
   have next:∀ (v:Bool) (i h:Int),stOk b i→∃ l i' h',Ev (fun k=>if (acc.map sgn).length < 140737488355328 then spec_l06Table.l0 k (n:Int) (acc.map sgn ++ [sgn v]) m (wrap64 ((j:Int) + 1)) b i h else none) ((n:Int),ones l,i',h')∧l.length=2 ^ n∧stOk b i':=by
    intro v i h hi
    simp only [if_pos (show (acc.map sgn).length < 140737488355328 by simp;omega),w64s j (by omega),show acc.map sgn ++ [sgn v]=(acc ++ [v]).map sgn from by simp]
    exact ih (j + 1) (acc ++ [v]) m i h (by omega) (by simp;omega) hi
   obtain ⟨v,i',h',e,hv0,hv1,hi'⟩:=below_ok h 2 hi (by omega) (by omega)
   have hj0:(j:Int) < ((2 ^ n:Nat):Int):=by omega
   by_cases h0:m=0
   ·have hb2:0≤Int.tmod (wrap64 (Int.tdiv (j:Int) 2)) 2∧Int.tmod (wrap64 (Int.tdiv (j:Int) 2)) 2 < 2:=by
     rw [Int.tdiv_eq_ediv_of_nonneg (by omega),w64 (by omega) (by omega),Int.tmod_eq_emod_of_nonneg (by omega)]
     omega
    obtain ⟨l,i2,h2,e2,q⟩:=next (Int.tmod (wrap64 (Int.tdiv (j:Int) 2)) 2 == 1) i' h' hi'
    refine ⟨l,i2,h2,ev_succ ?_,q⟩
    simp only [spec_l06Table.l0]
    refine ev_bind pw ?_
    simp only [if_pos hj0,e,Option.bind_some,if_pos h0,bit_sgn hb2.1 hb2.2]
    exact e2
   by_cases h1:m=1
   ·obtain ⟨t,i2,h2,e2,hi2⟩:=once_ok h' 2 hi' (by omega) (by omega)
    cases t
    ·obtain ⟨l,i3,h3,e3,q⟩:=next (v == 1) i2 h2 hi2
     refine ⟨l,i3,h3,ev_succ ?_,q⟩
     simp only [spec_l06Table.l0]
     refine ev_bind pw ?_
     simp only [if_pos hj0,e,e2,Option.bind_some,if_neg h0,if_pos h1,bit_sgn hv0 hv1,Bool.false_eq_true,if_false]
     exact e3
    ·obtain ⟨l,i3,h3,e3,q⟩:=next false i2 h2 hi2
     refine ⟨l,i3,h3,ev_succ ?_,q⟩
     simp only [spec_l06Table.l0]
     refine ev_bind pw ?_
     simp only [if_pos hj0,e,e2,Option.bind_some,if_neg h0,if_pos h1,if_true]
     exact e3
   ·obtain ⟨l,i3,h3,e3,q⟩:=next (v == 1) i' h' hi'
    refine ⟨l,i3,h3,ev_succ ?_,q⟩
    simp only [spec_l06Table.l0]
    refine ev_bind pw ?_
    simp only [if_pos hj0,e,Option.bind_some,if_neg h0,if_neg h1,bit_sgn hv0 hv1]
    exact e3
 obtain ⟨m,i',h',e,_,_,hi'⟩:=below_ok h 4 hi (by omega) (by omega)
 obtain ⟨l,i2,h2,e2,q⟩:=H (2 ^ n) 0 [] m i' h' (by omega) rfl hi'
 refine ⟨l,i2,h2,?_,q⟩
 unfold spec_l06Table.f
 simp only [e,Option.bind_some]
 exact e2
theorem row_ev (n:Nat) (hn:n≤100) {b:List Int} {i:Int} (h:Int) (hi:stOk b i):∃ r i' h',Ev (fun k=>spec_l08Row.f k b i h (n:Int)) (r,i',h')∧r.length=n∧stOk b i':=by
 have H:∀ d (j:Nat) (acc:List Bool) (i h:Int),j + d=n→acc.length=j→stOk b i→∃ l i' h',Ev (fun k=>spec_l08Row.l0 k (n:Int) acc (j:Int) b i h) (l,i',h')∧l.length=n∧stOk b i':=by
  intro d
  induction d with
  | zero =>
   intro j acc i h hj ha hi
   refine ⟨acc,i,h,ev_succ ?_,by omega,hi⟩
   simp only [spec_l08Row.l0,if_neg (show ¬ (j:Int) < (n:Int) by omega)]
   exact ev_some _
  | succ d ih =>
   intro j acc i h hj ha hi
   obtain ⟨t,i',h',e,hi'⟩:=once_ok h 2 hi (by omega) (by omega)
   obtain ⟨l,i2,h2,e2,q⟩:=ih (j + 1) (acc ++ [t]) i' h' (by omega) (by simp;omega) hi'
   refine ⟨l,i2,h2,ev_succ ?_,q⟩
   simp only [spec_l08Row.l0,if_pos (show (j:Int) < (n:Int) by omega),e,Option.bind_some,if_pos (show acc.length < 140737488355328 by omega),w64s j (show j < 4611686018427387904 by omega)]
   exact e2
 unfold spec_l08Row.f
 exact H n 0 [] i h (by omega) rfl hi
theorem drawCase_ev (b:List Int) (hb:b.length≤1099511627776):∃ r n l,Ev (fun k=>spec_DrawCase.f k b) (r,((n:Nat):Int),ones l)∧n≤6∧r.length=n∧l.length=2 ^ n:=by
 unfold spec_DrawCase.f
 obtain ⟨h,e⟩:=new_ev b hb
 obtain ⟨n,i1,h1,e1,hn0,hn1,hi1⟩:=below_ok h 7 (st_zero hb) (by omega) (by omega)
 obtain ⟨n,rfl⟩:=Int.eq_ofNat_of_zero_le hn0
 obtain ⟨r,i2,h2,e2,hr,hi2⟩:=row_ev n (by omega) h1 hi1
 obtain ⟨l,i3,h3,e3,hl,_⟩:=table_ev n (by omega) h2 hi2
 refine ⟨r,n,l,?_,by omega,hr,hl⟩
 refine ev_bind e ?_
 simp only [e1,Option.bind_some]
 refine ev_bind e2 ?_
 refine ev_bind e3 ?_
 exact ev_some _
end Go.Proofs.Ytlpfmhikahlcoaa.Pure
set_option linter.unusedSimpArgs false
set_option linter.unusedVariables false
namespace Go.Proofs.Ytlpfmhikahlcoaa.Pure
open Go.RowKit Go.Proofs.Ytlpfmhikahlcoaa.G Go.Proofs.Ytlpfmhikahlcoaa.Mp Go.Proofs.YtlpfmhikahlcoaaW.PrintWords Go.Proofs.YtlpfmhikahlcoaaW.PrintLast Go.Proofs.YtlpfmhikahlcoaaW.PrintMore
def plcN:List Int→Nat
 | []=>0
 | x :: p=>(if x=1 then 2 ^ p.length else 0) + plcN p
theorem plc_N:∀ (p:List Int),(∀ z∈p,z=0∨z=1)→∀ a:Int,p.foldl (fun a b=>2 * a + b) a=a * ((2 ^ p.length:Nat):Int) + ((plcN p:Nat):Int):=by
 intro p
 induction p with
 | nil=>intro _ a;simp [plcN]
 | cons x p ih =>
  intro h a
  rw [List.foldl_cons,ih (fun z hz=>h z (List.mem_cons_of_mem _ hz)),List.length_cons,Nat.pow_succ]
  simp only [plcN]
  have e:((2 ^ p.length * 2:Nat):Int)=2 * ((2 ^ p.length:Nat):Int):=by omega
  rw [e,Int.natCast_add]
  generalize hq:((2 ^ p.length:Nat):Int)=q
  have e2:∀ x:Int,(2 * a + x) * q=a * (2 * q) + x * q:=fun x=>by rw [Int.add_mul,← Int.mul_assoc a 2 q,Int.mul_comm a 2]
  rcases h x (List.mem_cons_self ..) with rfl|rfl
  ·rw [e2,Int.zero_mul,if_neg (by decide)]
   simp
  ·rw [e2,Int.one_mul,if_pos rfl,Int.add_assoc,hq]
theorem plcN_lt:∀ (p:List Int),plcN p < 2 ^ p.length:=by
 intro p
 induction p with
 | nil=>decide
 | cons x p ih =>
  simp only [plcN,List.length_cons,Nat.pow_succ]
  split <;> omega
theorem getD_half (l:List Bool) (m:Nat) (hl:l.length=2 ^ (m + 1)) (x:Int) (p:Nat) (hp:p < 2 ^ m):l.getD ((if x=1 then 2 ^ m else 0) + p) false=(halfL l (x == 1)).getD p false:=by
 rw [Nat.pow_succ] at hl
 unfold halfL
 by_cases h:x=1
 ·subst h
  simp only [beq_self_eq_true,if_true]
  rw [List.getD_eq_getElem?_getD,List.getD_eq_getElem?_getD,List.getElem?_drop,show l.length / 2=2 ^ m by omega]
 ·simp only [if_neg h,beq_eq_false_iff_ne.2 h,Bool.false_eq_true,if_false,Nat.zero_add]
  rw [List.getD_eq_getElem?_getD,List.getD_eq_getElem?_getD,List.getElem?_take,if_pos (by omega)]
theorem play_any {ps:List S108} {R:List (ByteArray × Int)} (hR:mapOk R ps) {v:Int} (rr:List Bool) (hrr:rr.length≤12):∀ (d:Nat) (vals moves:List Int),vals.length + d=rr.length→(∀ z∈vals,z=0∨z=1)→(∀ k,vals <+: k→firstV ps k=none) →
  ∃ p:List Int,p.length=d∧(∀ z∈p,z=0∨z=1)∧Ev (fun k=>plF k (rr.map fun a=>a == (v == 0)) R (rr.length:Int) vals moves (vals.length:Int)) (vals ++ p):=by
 intro d
 induction d with
 | zero =>
  intro vals moves hv _ _
  refine ⟨[],rfl,fun z hz=>(by cases hz),ev_succ ?_⟩
  simp only [plF,if_neg (show ¬ (vals.length:Int) < (rr.length:Int) by omega),List.append_nil]
  exact ev_some _
 | succ d ih =>
  intro vals moves hv hz hF
  have hil:vals.length < rr.length:=by omega
  have wf:∀ z:Int,(z=0∨z=1)→(Lit.int .i64 z).wf=true:=fun z hz=>by rcases hz with rfl|rfl <;> decide
  have hkl:=keyL_len (fun z hz'=>wf z (hz z hz'))
  obtain ⟨m1,m2⟩:=hR vals
  rw [hF vals (List.prefix_refl _)] at m2
  have step:∀ (x:Int) (mv:List Int),x=0∨x=1→∃ p:List Int,p.length=d + 1∧(∀ z∈p,z=0∨z=1)∧Ev (fun k=>plF k (rr.map fun a=>a == (v == 0)) R (rr.length:Int) (vals ++ [x]) mv ((vals.length + 1:Nat):Int)) (vals ++ p):=by
   intro x mv hx
   obtain ⟨p,hp1,hp2,hp3⟩:=ih (vals ++ [x]) mv (by simp;omega) (bits_snoc hz hx) (fun k hk=>hF k (pre_base hk))
   rw [List.length_append,List.length_singleton,List.append_assoc] at hp3
   refine ⟨x :: p,by simp [hp1],fun z hz'=>?_,hp3⟩
   rcases List.mem_cons.1 hz' with rfl|h
   ·exact hx
   ·exact hp2 z h
  have C:0≤(vals.length:Int)∧(vals.length:Int) < ((rr.map fun a=>a == (v == 0)).length:Int)∧vals.length < 17592186044416:=⟨by omega,by rw [List.length_map];omega,by omega⟩
  cases ho:rdOf false (rr.map fun a=>a == (v == 0)) (vals.length:Int) with
  | true =>
   obtain ⟨p,h1,h2,h3⟩:=step 0 moves (Or.inl rfl)
   refine ⟨p,h1,h2,ev_succ ?_⟩
   simp only [plF,if_pos (show (vals.length:Int) < (rr.length:Int) by omega),if_pos C,ho,if_true,w64s vals.length (show vals.length < 4611686018427387904 by omega)]
   refine ev_bind (valsKey_ev vals (fun z hz'=>wf z (hz z hz')) (by omega)) ?_
   simp only [byts_size,if_pos (show (keyL vals).length≤maxLen by unfold maxLen;omega),m2,Option.getD_none]
   exact h3
  | false =>
   by_cases hm:0 < moves.length
   ·by_cases h0:rd moves 0=0
    ·obtain ⟨p,h1,h2,h3⟩:=step 0 (moves.drop 1) (Or.inl rfl)
     refine ⟨p,h1,h2,ev_succ ?_⟩
     simp only [plF,if_pos (show (vals.length:Int) < (rr.length:Int) by omega),if_pos C,ho,Bool.false_eq_true,if_false,if_pos hm,if_pos h0,w64s vals.length (show vals.length < 4611686018427387904 by omega)]
     exact h3
    ·obtain ⟨p,h1,h2,h3⟩:=step 1 (moves.drop 1) (Or.inr rfl)
     refine ⟨p,h1,h2,ev_succ ?_⟩
     simp only [plF,if_pos (show (vals.length:Int) < (rr.length:Int) by omega),if_pos C,ho,Bool.false_eq_true,if_false,if_pos hm,if_neg h0,w64s vals.length (show vals.length < 4611686018427387904 by omega)]
     exact h3
   ·obtain ⟨p,h1,h2,h3⟩:=step 0 moves (Or.inl rfl)
    refine ⟨p,h1,h2,ev_succ ?_⟩
    simp only [plF,if_pos (show (vals.length:Int) < (rr.length:Int) by omega),if_pos C,ho,Bool.false_eq_true,if_false,if_neg hm,w64s vals.length (show vals.length < 4611686018427387904 by omega)]
    exact h3
theorem known_getD {r l:List Bool} {v:Int} (hv:v=0∨v=1) (hl:l.length=2 ^ r.length) (hk:0≤knC l) (hd:dec r l=(v == 1)) (j:Nat) (hj:j < l.length):l.getD j false=(v == 1):=by
 have h:=knC_dec hl hk
 rw [hd,b01_v hv] at h
 have hm:l.getD j false∈l:=by rw [getD_lt l j false hj];exact List.getElem_mem _
 have hc:l.contains (l.getD j false)=true:=by simpa using hm
 unfold knC at h
 cases hb:l.getD j false with
 | false =>
  rw [hb] at hc
  rcases hv with rfl|rfl
  ·rfl
  ·rw [hc] at h
   exact absurd h (by split <;> simp)
 | true =>
  rw [hb] at hc
  rcases hv with rfl|rfl
  ·rw [hc] at h
   exact absurd h (by simp;split <;> simp)
  ·rfl
theorem play_win {ps:List S108} {R:List (ByteArray × Int)} (hR:mapOk R ps) {v:Int} (hv:v=0∨v=1) (rr:List Bool) (hrr:rr.length≤12):∀ (r l:List Bool) (vals moves:List Int),r=rr.drop vals.length→vals.length + r.length=rr.length→l.length=2 ^ r.length→dec r l=(v == 1)→(∀ z∈vals,z=0∨z=1)→(∀ k,vals <+: k→firstV ps k=firstV (winR v r l vals) k) →
  ∃ p:List Int,p.length=r.length∧(∀ z∈p,z=0∨z=1)∧l.getD (plcN p) false=(v == 1)∧Ev (fun k=>plF k (rr.map fun a=>a == (v == 0)) R (rr.length:Int) vals moves (vals.length:Int)) (vals ++ p):=by
 intro r
 induction r with
 | nil =>
  intro l vals moves hr hv2 hl hd hz hF
  refine ⟨[],rfl,fun z hz=>(by cases hz),(show l.getD 0 false=(v == 1) from hd),ev_succ ?_⟩
  simp only [List.length_nil] at hv2
  simp only [plF,if_neg (show ¬ (vals.length:Int) < (rr.length:Int) by omega),List.append_nil]
  exact ev_some _
 | cons a r ih =>
  intro l vals moves hr hv2 hl hd hz hF
  by_cases hk:0≤knC l
  ·unfold winR at hF
   simp only [if_pos hk] at hF
   obtain ⟨p,h1,h2,h3⟩:=play_any hR (v:=v) rr hrr (a :: r).length vals moves hv2 hz (fun k hk=>hF k hk)
   exact ⟨p,h1,h2,known_getD hv hl hk hd _ (by rw [hl,← h1];exact plcN_lt p),h3⟩
  simp only [List.length_cons] at hv2 hl
  have hil:vals.length < rr.length:=by omega
  have wf:∀ z:Int,(z=0∨z=1)→(Lit.int .i64 z).wf=true:=fun z hz=>by rcases hz with rfl|rfl <;> decide
  have hkl:=keyL_len (fun z hz'=>wf z (hz z hz'))
  have hdr:rr.drop vals.length=rr.getD vals.length false :: rr.drop (vals.length + 1):=by rw [getD_lt rr _ _ hil,← List.drop_eq_getElem_cons]
  rw [hdr] at hr
  injection hr with ha hr
  unfold winR at hF
  simp only [if_neg hk] at hF
  have step:∀ (x:Int) (mv:List Int),x=0∨x=1→dec r (halfL l (x == 1))=(v == 1)→(∀ k,(vals ++ [x]) <+: k→firstV ps k=firstV (winR v r (halfL l (x == 1)) (vals ++ [x])) k)→∃ p:List Int,p.length=r.length + 1∧(∀ z∈p,z=0∨z=1)∧l.getD (plcN p) false=(v == 1)∧Ev (fun k=>plF k (rr.map fun a=>a == (v == 0)) R (rr.length:Int) (vals ++ [x]) mv ((vals.length + 1:Nat):Int)) (vals ++ p):=by
   intro x mv hx hdx hFx
   obtain ⟨p,hp1,hp2,hp4,hp3⟩:=ih (halfL l (x == 1)) (vals ++ [x]) mv (by rw [List.length_append,List.length_singleton];exact hr) (by simp;omega) (halfL_len hl _) hdx (bits_snoc hz hx) hFx
   rw [List.length_append,List.length_singleton,List.append_assoc] at hp3
   refine ⟨x :: p,by simp [hp1],fun z hz'=>?_,?_,hp3⟩
   ·rcases List.mem_cons.1 hz' with rfl|h
    ·exact hx
    ·exact hp2 z h
   ·simp only [plcN]
    rw [hp1,getD_half l r.length hl x _ (by rw [← hp1];exact plcN_lt p)]
    exact hp4
  have C:0≤(vals.length:Int)∧(vals.length:Int) < ((rr.map fun a=>a == (v == 0)).length:Int)∧vals.length < 17592186044416:=⟨by omega,by rw [List.length_map];omega,by omega⟩
  have hrd:rdOf false (rr.map fun a=>a == (v == 0)) (vals.length:Int)=(a == (v == 0)):=by
   rw [rdOf_nat,List.getD_eq_getElem?_getD,List.getElem?_map,List.getElem?_eq_getElem hil,ha,getD_lt rr _ _ hil]
   rfl
  by_cases ho:(a == (v == 0))=true
  ·simp only [if_pos ho] at hF
   have hp:=dec_pick hv ho hd
   generalize hb:(dec r (halfL l false) != dec (a :: r) l)=b at hF hp
   have h0:firstV ps vals=some (b01 b):=by
    rw [hF vals (List.prefix_refl _)]
    simp only [firstV,if_true]
   have hF2:∀ k,(vals ++ [b01 b]) <+: k→firstV ps k=firstV (winR v r (halfL l b) (vals ++ [b01 b])) k:=fun k hk=>by
    rw [hF k (pre_base hk)]
    simp only [firstV]
    rw [if_neg (pre_ne hk)]
   have hb1:(b01 b == 1)=b:=by cases b <;> rfl
   obtain ⟨p,h1,h2,h4,h3⟩:=step (b01 b) moves (by cases b <;> simp [b01]) (by rw [hb1];exact hp) (by rw [hb1];exact hF2)
   obtain ⟨m1,m2⟩:=hR vals
   rw [h0] at m2
   refine ⟨p,h1,h2,h4,ev_succ ?_⟩
   simp only [plF,if_pos (show (vals.length:Int) < (rr.length:Int) by omega),if_pos C,hrd,ho,if_true,w64s vals.length (show vals.length < 4611686018427387904 by omega)]
   refine ev_bind (valsKey_ev vals (fun z hz'=>wf z (hz z hz')) (by omega)) ?_
   simp only [byts_size,if_pos (show (keyL vals).length≤maxLen by unfold maxLen;omega),m2,Option.getD_some]
   exact h3
  ·simp only [if_neg ho] at hF
   have ho':(a == (v == 0))=false:=by simpa using ho
   have hb:=dec_both hv ho' hd
   have s0:=fun mv=>step 0 mv (Or.inl rfl) hb.1 (fun k hk=>by rw [hF k (pre_base hk),firstV_app,firstV_none v k r (halfL l true) _ (pre_two hk (show (0:Int)≠1 by decide)),Option.or_none];rfl)
   have s1:=fun mv=>step 1 mv (Or.inr rfl) hb.2 (fun k hk=>by rw [hF k (pre_base hk),firstV_app,firstV_none v k r (halfL l false) _ (pre_two hk (show (1:Int)≠0 by decide)),Option.none_or];rfl)
   by_cases hm:0 < moves.length
   ·by_cases h0:rd moves 0=0
    ·obtain ⟨p,h1,h2,h4,h3⟩:=s0 (moves.drop 1)
     refine ⟨p,h1,h2,h4,ev_succ ?_⟩
     simp only [plF,if_pos (show (vals.length:Int) < (rr.length:Int) by omega),if_pos C,hrd,ho',Bool.false_eq_true,if_false,if_pos hm,if_pos h0,w64s vals.length (show vals.length < 4611686018427387904 by omega)]
     exact h3
    ·obtain ⟨p,h1,h2,h4,h3⟩:=s1 (moves.drop 1)
     refine ⟨p,h1,h2,h4,ev_succ ?_⟩
     simp only [plF,if_pos (show (vals.length:Int) < (rr.length:Int) by omega),if_pos C,hrd,ho',Bool.false_eq_true,if_false,if_pos hm,if_neg h0,w64s vals.length (show vals.length < 4611686018427387904 by omega)]
     exact h3
   ·obtain ⟨p,h1,h2,h4,h3⟩:=s0 moves
    refine ⟨p,h1,h2,h4,ev_succ ?_⟩
    simp only [plF,if_pos (show (vals.length:Int) < (rr.length:Int) by omega),if_pos C,hrd,ho',Bool.false_eq_true,if_false,if_neg hm,w64s vals.length (show vals.length < 4611686018427387904 by omega)]
    exact h3
theorem valAt_N {n:Nat} {l:List Bool} (hn:n≤12) (hl:l.length=2 ^ n) (p:List Int) (hp:p.length=n) (hb:∀ z∈p,z=0∨z=1):valAt (n:Int) (ones l) p=b01 (l.getD (plcN p) false):=by
 have hc:plc p=((plcN p:Nat):Int):=by
  have:=plc_N p hb 0
  rw [Int.zero_mul,Int.zero_add] at this
  exact this
 have hlt:plcN p < l.length:=by rw [hl,← hp];exact plcN_lt p
 unfold valAt
 rw [if_pos ⟨tok_ones hn hl,by omega,List.all_eq_true.2 fun z hz=>by rcases hb z hz with rfl|rfl <;> rfl⟩,hc,bt_ones l _ hlt]
 cases l.getD (plcN p) false <;> rfl
theorem play_ev {n:Nat} {r l:List Bool} (hn:n≤12) (hr:r.length=n) (hl:l.length=2 ^ n) (moves:List Int) (v:Int) (hv:v=b01 (dec r l)):Ev (fun k=>impl_Play.f k r (n:Int) (ones l) v (winR v r l []) moves) v:=by
 subst hr
 have hv2:v=0∨v=1:=by rw [hv];cases dec r l <;> simp [b01]
 have hd:dec r l=(v == 1):=by rw [hv];cases dec r l <;> rfl
 have hp:=pow12 hn
 have okp:okP (winR v r l []):=by
  obtain ⟨h1,h2⟩:=win_small v r l [] (by simp;omega) (fun z hz=>by cases hz)
  have wf:∀ z:Int,(z=0∨z=1)→(Lit.int .i64 z).wf=true:=fun z hz=>by rcases hz with rfl|rfl <;> decide
  exact ⟨by omega,fun x hx=>⟨by have:=(h2 x hx).1;omega,fun z hz=>wf z ((h2 x hx).2.1 z hz),wf _ (h2 x hx).2.2⟩⟩
 obtain ⟨R,eR,hR⟩:=pk_ev okp
 obtain ⟨p,h1,h2,h4,h3⟩:=play_win hR hv2 r hn r l [] moves (by simp) (by simp) hl hd (fun z hz=>(by cases hz)) (fun k _=>rfl)
 unfold impl_Play.f impl_rowed.f
 have et:=ev_ge _ (impl_TableOk_eq (r.length:Int) (ones l) (by rw [ones_size];omega))
 rw [tok_ones hn hl] at et
 refine ev_bind (a:=true) (ev_bind et (by simp only [if_true,beq_self_eq_true];exact ev_some _)) ?_
 simp only [if_true,if_pos hv2]
 have eo:=ev_ge _ (impl_Owner_eq v r (by omega))
 unfold owner at eo
 rw [if_pos hv2] at eo
 refine ev_bind eo ?_
 refine ev_bind eR ?_
 refine ev_bind h3 ?_
 have ea:=ev_ge _ (impl_TableAt_eq (r.length:Int) (ones l) ([] ++ p) (by rw [ones_size];omega))
 rw [List.nil_append,valAt_N hn hl p h1 h2,h4,b01_v hv2] at ea
 exact ea
theorem any_ev {b:List Int} {i:Int} (h:Int) (hi:stOk b i):∃ N s i' h',Ev (fun k=>spec_l06Any.f k b i h) (N,s,i',h') ∧ -1≤N∧N≤13∧s.size≤4096∧stOk b i':=by
 unfold spec_l06Any.f
 obtain ⟨n,i1,h1,e1,hn0,hn1,hi1⟩:=below_ok h 6 hi (by omega) (by omega)
 obtain ⟨n,rfl⟩:=Int.eq_ofNat_of_zero_le hn0
 obtain ⟨l,i2,h2,e2,hl,hi2⟩:=table_ev n (by omega) h1 hi1
 obtain ⟨v,i3,h3,e3,_,_,hi3⟩:=below_ok h2 14 hi2 (by omega) (by omega)
 have hp:=pow12 (n:=n) (by omega)
 simp only [e1,Option.bind_some]
 by_cases h0:v=0
 ·obtain ⟨w,i4,h4,e4,hw,hi4⟩:=pickInt_ok h3 [-1,13,wrap64 ((n:Int) + 1)] hi3 (by simp) (by simp)
  have hw2:=hw
  rw [w64s n (by omega)] at hw2
  simp only [List.mem_cons,List.not_mem_nil,or_false] at hw2
  refine ⟨w,ones l,i4,h4,ev_bind e2 ?_,by omega,by omega,by rw [ones_size];omega,hi4⟩
  simp only [e3,Option.bind_some,if_pos h0,e4]
  exact ev_some _
 ·by_cases h1':v=1
  ·have hpos:0 < 2 ^ n:=Nat.two_pow_pos n
   have hsz:((ones l).extract 1 (ones l).size).size=l.length - 1:=by rw [ByteArray.size_extract,ones_size];omega
   refine ⟨(n:Int),(ones l).extract 1 (ones l).size ++ (⟨#[50]⟩:ByteArray),i3,h3,ev_bind e2 ?_,by omega,by omega,?_,hi3⟩
   ·simp only [e3,Option.bind_some,if_neg h0,if_pos h1',if_pos (show 1≤((ones l).size:Int) by rw [ones_size];omega),if_pos (show ((ones l).extract 1 (ones l).size).size + 1≤9223372036854775807 by rw [hsz];omega)]
    exact ev_some _
   ·rw [ByteArray.size_append,hsz]
    show _ + 1≤_
    omega
  ·refine ⟨(n:Int),ones l,i3,h3,ev_bind e2 ?_,by omega,by omega,by rw [ones_size];omega,hi3⟩
   simp only [e3,Option.bind_some,if_neg h0,if_neg h1']
   exact ev_some _
theorem draw08_ev (b:List Int) (hb:b.length≤1099511627776):∃ r N s,Ev (fun k=>spec_l08Draw.f k b) (r,N,s)∧r.length≤20∧s.size≤4096:=by
 unfold spec_l08Draw.f
 obtain ⟨h,e⟩:=new_ev b hb
 obtain ⟨N,s,i1,h1,e1,hN0,hN1,hs,hi1⟩:=any_ev h (st_zero hb)
 obtain ⟨m,em,hm⟩:∃ m:Nat,spec_l01Mod.f N 14=some (m:Int)∧m≤13:=by
  unfold spec_l01Mod.f
  rw [if_neg (by decide)]
  by_cases hn:N = -1
  ·subst hn
   exact ⟨13,by decide +kernel,by decide⟩
  ·obtain ⟨q,rfl⟩:=Int.eq_ofNat_of_zero_le (show 0≤N by omega)
   have e2:Int.tmod (q:Int) 14=(q:Int):=by rw [Int.tmod_eq_emod_of_nonneg (by omega)];omega
   rw [e2,if_neg (by omega)]
   exact ⟨q,rfl,by omega⟩
 obtain ⟨t,i2,h2,e2,hi2⟩:=once_ok h1 15 hi1 (by omega) (by omega)
 cases t with
 | true =>
  obtain ⟨r,i3,h3,e3,hr,_⟩:=row_ev (m + 1) (by omega) h2 hi2
  refine ⟨r,N,s,ev_bind e (ev_bind e1 ?_),by omega,hs⟩
  simp only [em,Option.bind_some,e2,if_true,w64s m (show m < 4611686018427387904 by omega)]
  exact ev_bind e3 (ev_some _)
 | false =>
  obtain ⟨r,i3,h3,e3,hr,_⟩:=row_ev m (by omega) h2 hi2
  refine ⟨r,N,s,ev_bind e (ev_bind e1 ?_),by omega,hs⟩
  simp only [em,Option.bind_some,e2,Bool.false_eq_true,if_false]
  exact ev_bind e3 (ev_some _)
theorem below_any {b:List Int} {i:Int} (h a:Int) (hi:stOk b i) (h0:0 < a):∃ v i' h',spec_l01Below.f b i h a=some (v,i',h')∧0≤v∧v < a∧stOk b i':=by
 by_cases h1:a≤256
 ·exact below_ok h a hi h0 h1
 unfold spec_l01Below.f
 obtain ⟨v1,i1,q1,e1,a1,b1,hi1⟩:=byte_ok h hi
 obtain ⟨v2,i2,q2,e2,a2,b2,hi2⟩:=byte_ok q1 hi1
 obtain ⟨v3,i3,q3,e3,a3,b3,hi3⟩:=byte_ok q2 hi2
 obtain ⟨v4,i4,q4,e4,a4,b4,hi4⟩:=byte_ok q3 hi3
 simp only [if_neg (show ¬ a≤0 by omega),if_neg h1,e1,e2,e3,e4,Option.bind_some,if_neg (show ¬ a=0 by omega)]
 rw [w64 (n:=v1 * 16777216) (by omega) (by omega),w64 (n:=v2 * 65536) (by omega) (by omega),w64 (n:=v3 * 256) (by omega) (by omega),w64 (n:=v1 * 16777216 + v2 * 65536) (by omega) (by omega),w64 (n:=v1 * 16777216 + v2 * 65536 + v3 * 256) (by omega) (by omega),w64 (n:=v1 * 16777216 + v2 * 65536 + v3 * 256 + v4) (by omega) (by omega)]
 refine ⟨_,_,_,rfl,?_,?_,hi4⟩
 ·rw [Int.tmod_eq_emod_of_nonneg (by omega)];exact Int.emod_nonneg _ (by omega)
 ·rw [Int.tmod_eq_emod_of_nonneg (by omega)];exact Int.emod_lt_of_pos _ h0
def smP (l:List S108):Prop:=l.length≤4096∧∀ x∈l,x.f0.length≤12∧(∀ z∈x.f0,z=0∨z=1)∧(x.f1=0∨x.f1=1)
theorem winT_sm (r:List Bool) (N:Int) (s:ByteArray):smP (winT r N s).1:=by
 unfold winT
 cases hb:tok N s && ((r.length:Int) == N) with
 | false=>exact ⟨Nat.zero_le _,fun x hx=>(by cases hx)⟩
 | true =>
  simp only [Bool.and_eq_true,beq_iff_eq] at hb
  obtain ⟨n,l,rfl,hn,hl,rfl⟩:=tok_form hb.1
  have hrn:r.length=n:=by omega
  subst hrn
  simp only [if_true,flags_ones]
  obtain ⟨h1,h2⟩:=win_small (b01 (dec r l)) r l [] (by simp;omega) (fun z hz=>(by cases hz))
  have hp:=pow12 hn
  exact ⟨by omega,h2⟩
theorem wf_small {z:Int} (h0 : -5≤z) (h1:z≤5):(Lit.int .i64 z).wf=true:=by
 have:z = -5∨z = -4∨z = -3∨z = -2∨z = -1∨z=0∨z=1∨z=2∨z=3∨z=4∨z=5:=by omega
 rcases this with rfl|rfl|rfl|rfl|rfl|rfl|rfl|rfl|rfl|rfl|rfl <;> decide
theorem spoilt_ok {b:List Int} {i:Int} (h:Int) (hi:stOk b i) {l:List S108} (hl:smP l):∃ l' i' h',spec_l10Spoilt.f b i h l=some (l',i',h')∧okP l':=by
 have hlen:=hl.1
 have el:∀ x:S108,x∈l→x.f0.length≤1048576∧(∀ v∈x.f0,(Lit.int .i64 v).wf=true)∧(Lit.int .i64 x.f1).wf=true:=fun x hx=>by
  obtain ⟨h1,h2,h3⟩:=hl.2 x hx
  exact ⟨by omega,fun v hv=>by rcases h2 v hv with rfl|rfl <;> decide,by rcases h3 with e|e <;> rw [e] <;> decide⟩
 unfold spec_l10Spoilt.f
 by_cases h0:l.length=0
 ·rw [if_pos h0]
  exact ⟨l,i,h,rfl,by omega,el⟩
 rw [if_neg h0]
 obtain ⟨j,i1,q1,e1,j0,j1,hi1⟩:=below_any h (l.length:Int) hi (by omega)
 obtain ⟨c,i2,q2,e2,c0,c1,hi2⟩:=below_ok q1 7 hi1 (by omega) (by omega)
 obtain ⟨j,rfl⟩:=Int.eq_ofNat_of_zero_le j0
 have hj:j < l.length:=by omega
 have hm:rd_T108 l (j:Int)∈l:=by rw [rdP_nat,getD_lt l j _ hj];exact List.getElem_mem _
 have hx:=hl.2 _ hm
 have hx2:=el _ hm
 simp only [e1,e2,Option.bind_some,if_pos (show 0≤(j:Int)∧(j:Int) < (l.length:Int)∧l.length < 4000000000 from ⟨by omega,by omega,by omega⟩)]
 have hset:∀ z:Int,(Lit.int .i64 z).wf=true→okP (l.set (j:Int).toNat ⟨(rd_T108 l (j:Int)).f0,z⟩):=fun z hz=>⟨by rw [List.length_set];omega,fun x hx3=>by
  rcases List.mem_or_eq_of_mem_set hx3 with h|rfl
  ·exact el x h
  ·exact ⟨hx2.1,hx2.2.1,hz⟩⟩
 by_cases k0:c=0
 ·rw [if_pos k0]
  refine ⟨_,_,_,rfl,hset _ ?_⟩
  rw [w64 (by rcases hx.2.2 with e|e <;> omega) (by rcases hx.2.2 with e|e <;> omega)]
  exact wf_small (by rcases hx.2.2 with e|e <;> omega) (by rcases hx.2.2 with e|e <;> omega)
 rw [if_neg k0]
 by_cases k1:c=1
 ·rw [if_pos k1]
  refine ⟨_,_,_,rfl,by rw [List.length_append,List.length_take,List.length_drop];omega,fun x hx3=>?_⟩
  rcases List.mem_append.1 hx3 with h|h
  ·exact el x (List.mem_of_mem_take h)
  ·exact el x (List.mem_of_mem_drop h)
 rw [if_neg k1]
 by_cases k2:c=2
 ·rw [if_pos k2]
  obtain ⟨x,i3,q3,e3,hx3,_⟩:=pickInt_ok q2 [-1,2] hi2 (by simp) (by simp)
  rw [e3,Option.bind_some]
  simp only [List.mem_cons,List.not_mem_nil,or_false] at hx3
  exact ⟨_,_,_,rfl,hset _ (wf_small (by omega) (by omega))⟩
 rw [if_neg k2]
 by_cases k3:c=3
 ·rw [if_pos k3]
  refine ⟨_,_,_,rfl,by rw [List.length_cons];omega,fun x hx3=>?_⟩
  rcases List.mem_cons.1 hx3 with rfl|h
  ·exact hx2
  ·exact el x h
 rw [if_neg k3]
 exact ⟨_,_,_,rfl,by omega,el⟩
theorem drawChecks_ev (b:List Int) (hb:b.length≤1099511627776):∃ r N s v ps,Ev (fun k=>spec_DrawChecks.f k b) (r,N,s,v,ps)∧s.size≤4096∧okP ps:=by
 unfold spec_DrawChecks.f
 obtain ⟨h,e⟩:=new_ev b hb
 obtain ⟨r,N,s,e1,hr,hs⟩:=draw08_ev b hb
 have e2:=spec_Win_ev r N s (by omega)
 have hw:=winT_sm r N s
 obtain ⟨t,i3,h3,e3,hi3⟩:=once_ok h 8 (st_zero hb) (by omega) (by omega)
 cases t with
 | true =>
  obtain ⟨x,i4,h4,e4,_,hi4⟩:=pickInt_ok h3 [wrap64 (1 - (winT r N s).2.1),2,-1] hi3 (by simp) (by simp)
  obtain ⟨l',i5,h5,e5,ok⟩:=spoilt_ok h4 hi4 hw
  refine ⟨r,N,s,x,l',ev_bind e (ev_bind e1 (ev_bind e2 ?_)),hs,ok⟩
  simp only [e3,Option.bind_some,if_true,e4,e5]
  exact ev_some _
 | false =>
  obtain ⟨l',i5,h5,e5,ok⟩:=spoilt_ok h3 hi3 hw
  refine ⟨r,N,s,(winT r N s).2.1,l',ev_bind e (ev_bind e1 (ev_bind e2 ?_)),hs,ok⟩
  simp only [e3,Option.bind_some,Bool.false_eq_true,if_false,e5]
  exact ev_some _
theorem atW (b:List Int) (hb:b.length≤1048576) (i:Nat) (hi:i < 100000):∃ x,laws_at.f b (i:Int)=some x:=by
 unfold laws_at.f
 split
 ·exact ⟨_,by rw [if_pos (by omega)]⟩
 ·exact ⟨_,rfl⟩
theorem chkT_win {n:Nat} {r l:List Bool} (hn:n≤12) (hr:r.length=n) (hl:l.length=2 ^ n) (v:Int) (hv:v=b01 (dec r l)):chkT r (n:Int) (ones l) v (winR v r l [])=true:=by
 subst hr
 have hv2:v=0∨v=1:=by rw [hv];cases dec r l <;> simp [b01]
 have hd:dec r l=(v == 1):=by rw [hv];cases dec r l <;> rfl
 have hp:=pow12 hn
 have h1:=(win_small v r l [] (by simp;omega) (fun z hz=>(by cases hz))).1
 unfold chkT
 rw [tok_ones hn hl,flags_ones,decide_eq_true hv2,decide_eq_true (show (winR v r l []).length≤5000 by omega),win_chk hv2 (firstV (winR v r l [])) r l [] hl hd (fun k _=>rfl)]
 simp
theorem chkT_dec {r:List Bool} {N:Int} {s:ByteArray} {v:Int} {ps:List S108} (h:chkT r N s v ps=true):decT r N s=(v,true):=by
 unfold chkT at h
 simp only [Bool.and_eq_true,decide_eq_true_eq] at h
 obtain ⟨⟨h1,h2⟩,h3,h4,h5⟩:=h
 obtain ⟨n,l,rfl,hn,hl,rfl⟩:=tok_form h1
 rw [beq_iff_eq] at h2
 have hrn:r.length=n:=by omega
 subst hrn
 rw [flags_ones] at h5
 unfold decT
 rw [h1,flags_ones,chk_dec h3 _ r l [] hl h5,b01_v h3]
 simp
theorem FnWin_pure:∀ (l0:List Int),(l0.length≤maxLen∧∀ x_∈l0,(Lit.int .u8 x_).wf=true)→∃ k,laws_FnWin.f k l0=some true:=by
 intro b _
 refine ev_rounds ?_
 unfold laws_FnWin.f laws_big.f
 by_cases hb:(b.length:Int) > 1048576
 ·simp only [Option.bind_some,if_pos (show (decide ((b.length:Int) > 1048576))=true from decide_eq_true hb)]
  exact ev_some _
 simp only [Option.bind_some,if_neg (show ¬ (decide ((b.length:Int) > 1048576))=true by rw [decide_eq_false hb];decide)]
 obtain ⟨r,n,l,ed,hn,hr,hl⟩:=drawCase_ev b (by omega)
 have hp:=pow12 (n:=n) (by omega)
 have hrn:((r.length:Int) == (n:Int))=true:=by simp;omega
 have ew:=impl_Win_ev r (n:Int) (ones l) (by rw [ones_size];omega)
 have ec:=ev_ge _ (spec_Decide_eq r (n:Int) (ones l) (by rw [ones_size];omega))
 unfold winT at ew
 unfold decT at ec
 rw [tok_ones (by omega) hl,hrn,flags_ones] at ew ec
 simp only [Bool.and_self,if_true] at ew ec
 obtain ⟨v,hv⟩:∃ v,v=b01 (dec r l):=⟨_,rfl⟩
 rw [← hv] at ew ec
 have okp:okP (winR v r l []):=by
  have h:=(winT_ok r (n:Int) (ones l)).1
  unfold winT at h
  rw [tok_ones (by omega) hl,hrn,flags_ones] at h
  simp only [Bool.and_self,if_true] at h
  rw [← hv] at h
  exact h
 have ek:=impl_Checks_ev r (n:Int) (ones l) v (by rw [ones_size];omega) okp
 rw [chkT_win (by omega) hr hl v hv] at ek
 obtain ⟨r2,N2,s2,v2,ps,eD,hs2,ok2⟩:=drawChecks_ev b (by omega)
 have e1:=impl_Checks_ev r2 N2 s2 v2 (by omega) ok2
 have e2:=spec_Checks_ev r2 N2 s2 v2 (by omega) ok2
 have e3:=ev_ge _ (spec_Decide_eq r2 N2 s2 (by omega))
 have ej2:Ev (fun k=>laws_FnWin.j2 k b false) true:=by
  refine ev_succ ?_
  simp only [laws_FnWin.j2,Bool.false_eq_true,if_false]
  refine ev_bind eD ?_
  refine ev_bind e1 ?_
  refine ev_bind e2 ?_
  simp only [bne_self_eq_false,Bool.false_eq_true,if_false]
  refine ev_bind e3 ?_
  cases hc:chkT r2 N2 s2 v2 ps with
  | false=>simp only [Bool.false_eq_true,if_false];exact ev_some _
  | true =>
   rw [chkT_dec hc]
   simp only [if_true,beq_self_eq_true]
   exact ev_some _
 have el0:∀ d i (m:List Int),i + d=n→m.length=i→Ev (fun k=>laws_FnWin.l0 k b r (winR v r l []) v m (i:Int) (n:Int) (ones l)) true:=by
  intro d
  induction d with
  | zero =>
   intro i m hi hm
   refine ev_succ ?_
   simp only [laws_FnWin.l0,if_neg (show ¬ (i:Int) < (n:Int) by omega)]
   refine ev_bind (play_ev (by omega) hr hl m v hv) ?_
   simp only [if_true]
   refine ev_bind (play_ev (by omega) hr hl [] v hv) ?_
   simp only [bne_self_eq_false]
   exact ej2
  | succ d ih =>
   intro i m hi hm
   obtain ⟨x,hx⟩:=atW b (by omega) (i + 2) (by omega)
   refine ev_succ ?_
   have e:laws_at.f b (wrap64 ((i:Int) + 2))=some x:=by
    rw [w64 (by omega) (by omega)]
    exact hx
   simp only [laws_FnWin.l0,if_pos (show (i:Int) < (n:Int) by omega),e,Option.bind_some,if_pos (show m.length < 17592186044416 by omega),w64s i (show i < 4611686018427387904 by omega)]
   exact ih (i + 1) _ (by omega) (by simp;omega)
 refine ev_bind ed ?_
 refine ev_bind ew ?_
 refine ev_bind ec ?_
 simp only [if_true]
 refine ev_bind ek ?_
 refine ev_succ ?_
 simp only [laws_FnWin.j0,Bool.not_true,Bool.false_eq_true,if_false]
 exact el0 n 0 [] (by omega) rfl
end Go.Proofs.Ytlpfmhikahlcoaa.Pure
namespace Go.Proofs.Ytlpfmhikahlcoaa.Open
open Go.Deep Go.ChangeShapes Go.WideShapes Go.RowKit Go.Proofs.YtlpfmhikahlcoaaW.PrintWords
def Opens {α:Type} (P:Program) (t:TypeId) (d:Kd α) (ok:α→Prop):Prop :=
 ∀ (H:Type) (enc:TypeId × Value→H) (w:World) (base:Nat) (spare:Nat→Bool) (held:Bool) (fuel:Nat) (cs:List Value) (x:DataW H × List MemPlace),
  DataW.trod enc P w base spare held fuel t cs=some x→∃ a,d.K w a cs∧ok a
theorem opens_int {P:Program} {t:TypeId} {k:IntKind} (hu:P.underlying t=some (.int k)):Opens P t (Kd.int k) (fun a=>(Lit.int k a).wf=true):=by
 intro H enc w base spare held fuel cs x h
 obtain ⟨n,rfl,_,hw⟩:=DataW.trod_int hu h
 exact ⟨n,rfl,hw⟩
theorem list_of {α:Type} {p:Nat→α→Prop}:∀ n,(∀ i,i < n→∃ a,p i a)→∃ l:List α,l.length=n∧∀ i a,l[i]? = some a→p i a
 | 0,_=>⟨[],rfl,fun i a h=>by simp at h⟩
 | n + 1,h=>by
  obtain ⟨l,hl,hp⟩:=list_of n (fun i hi=>h i (by omega))
  obtain ⟨a,ha⟩:=h n (by omega)
  refine ⟨l ++ [a],by simp [hl],fun i b hb=>?_⟩
  rw [List.getElem?_append] at hb
  split at hb
  ·exact hp i b hb
  ·rename_i hi
   have e:i=n:=by
    rcases Nat.lt_or_ge (i - l.length) 1 with h1|h1
    ·omega
    ·rw [List.getElem?_eq_none (by simpa using h1)] at hb
     cases hb
   subst e
   rw [hl,Nat.sub_self] at hb
   cases hb
   exact ha
theorem opens_slice {α:Type} {P:Program} {t e:TypeId} {d:Kd α} {ok:α→Prop} (hu:P.underlying t=some (.slice e)) (hc:P.cellsOf e=d.sz) (h:Opens P e d ok) :
  Opens P t (Kd.slice e d) (fun l=>l.length≤maxLen∧∀ x∈l,ok x):=by
 intro H enc w base spare held fuel cs x hx
 rcases open_slice hu hx with ⟨rfl,rfl⟩ | ⟨a,len,cap,m,n,D,Pl,rfl,hb,hl,hm,hmm,rfl,hel⟩
 ·exact ⟨[],⟨none,0,rfl,Nat.le_refl _,rfl,by simp,fun h=>absurd h (by simp)⟩,by simp [maxLen],by simp⟩
 ·have hle:len≤m:=by rw [hmm];split <;> omega
  have hone:∀ i,i < len→∃ y:α,(∃ cs',w.cells? base (a.add (i * P.cellsOf e)) (P.cellsOf e)=some cs'∧d.K w y cs')∧ok y:=by
   intro i hi
   obtain ⟨cs',h1,h2⟩:=hel i (by omega)
   obtain ⟨y,hk,ho⟩:=h H enc w base spare held n cs' _ h2
   exact ⟨y,⟨cs',h1,hk⟩,ho⟩
  obtain ⟨l,hll,hp⟩:=list_of len hone
  subst hll
  refine ⟨l,⟨some a,cap,rfl,hl,rfl,by simp only [maxLen] at hm;omega,fun _=>⟨a,rfl,fun j p hj=>?_⟩⟩,by omega,?_⟩
  ·obtain ⟨⟨cs',h1,hk⟩,_⟩:=hp j p hj
   refine ⟨cs',d.K_len hk,hk,fun i u hu=>?_⟩
   have hlt:i < cs'.length:=by
    rcases Nat.lt_or_ge i cs'.length with h'|h'
    ·exact h'
    ·rw [List.getElem?_eq_none h'] at hu;cases hu
   have hlen:=d.K_len hk
   obtain ⟨_,hlen2,hcell⟩:=World.cells?_some h1
   rw [hc] at hcell
   have:=hcell i (by omega)
   rw [hu] at this
   rw [← Addr.add_add]
   exact this.symm ▸ rfl
  ·intro x hx
   obtain ⟨i,hi,rfl⟩:=List.getElem_of_mem hx
   exact (hp i _ (List.getElem?_eq_getElem hi)).2
end Go.Proofs.Ytlpfmhikahlcoaa.Open
namespace Go.Proofs.Ytlpfmhikahlcoaa.fnWin
open Go.ChangeShapes Go.WideShapes Go.ChangeAt Go.RowKit Go.Proofs.Ytlpfmhikahlcoaa.Open Go.Proofs.Ytlpfmhikahlcoaa.G Go.Proofs.YtlpfmhikahlcoaaW.PrintWords
open Go.ChangeMaps (open_string shut_string)
set_option linter.unusedVariables false
theorem own:ownKnob Try.prog.godebug=none:=by kernel_rfl
theorem laidOut:laidOutB Try.prog=true:=by kernel_rfl
set_option maxRecDepth 100000 in
theorem lifted (os:Os) (started:os.Started) (H:Type) (enc:TypeId × Value→H) :
  ReturnsInHanded {} Try.checked os 14 .any (Rows.fnWinSpec.pre6 enc Try.prog Try.f14 Rows.fnWinRow.domain false) (Rows.fnWinSpec.post enc Try.prog Try.f14 false true false false):=by
 refine returnsInHanded_of_change (C:=Try.checked) own started (by kernel_rfl) Try.func14
  (ChangeSpec.witness6 (enc:=enc) (C:=Try.checked) false ⟨#[],#[.slice none 0 0],[]⟩ 8 (by kernel_rfl) (by kernel_rfl) (by kernel_rfl) (by kernel_rfl)) ?_
 intro W base args ds gs before hval0 hW hcnd _
 have hval:∀ (j:Nat) t v,Try.f14.params[j]? = some t→args[j]? = some v→Value.okWide Try.prog W .any base t v:=hval0
 have hW':=hW
 obtain ⟨p,q,hA0,hV,rfl,hfz,hnd⟩:=hW
 have hA:DataW.TrodAll enc Try.prog W 0 (fun _=>true) true Try.f14.params.toList args.toList ds p:=hA0
 rw [Try.params14] at hA hval
 obtain ⟨v0,vs0,d0,ds0,p0,q0,hargs,rfl,rfl,h0,r0⟩:=trodAll_cons hA
 obtain ⟨rfl,rfl,rfl⟩:=trodAll_nil r0
 obtain rfl:args=#[v0]:=by cases args;simp_all
 obtain ⟨rfl,rfl⟩:=trodVars_none hV
 have k0:=h0
 have lt0:∀ x∈p0,x.block < W.heap.size:=by obtain ⟨m,hm⟩:=k0;exact DataW.trod_lt m _ _ _ hm
 obtain ⟨fu0,hf0⟩:=h0
 obtain ⟨a0,len0,cap0,rfl⟩:=okWide_slice Try.underlying57 (hval 0 57 v0 rfl rfl)
 obtain ⟨l0,hk0,ok0⟩:=(opens_slice (d:=(Kd.int .u8)) Try.underlying57 (by kernel_rfl) (opens_int Try.underlying5)) _ enc W 0 _ true fu0 _ _ hf0
 obtain ⟨A0,c0,hcs0,hc0,hr0⟩:=hk0
 simp [Value.cells] at hcs0
 obtain ⟨rfl,rfl,rfl⟩:=hcs0
 clear hA0 hval0
 obtain ⟨k,hk⟩:=Pure.FnWin_pure l0 ok0
 refine (laws_FnWin.calls k _ _ l0 true W hr0 hc0 rfl hk).mono fun e W' ⟨he,bel0⟩=>?_
 have bel:Below W.heap.size W W':=bel0
 subst he
 exact ⟨_,rfl,_,_,_,[],_,[],hW',trodAll_mk1 (shut_bool Try.underlying4 _),(trodAll_cons_mk (Below.trod laidOut (by kernel_rfl) (of_decide_eq_true (by kernel_rfl)) k0 bel lt0) trodAll_mk0),rfl,bel.frame _,fun h=>by cases h⟩
theorem over:Rows.fnWinRow.holds Try.pinned (OpenSpec.ofChange Rows.fnWinSpec) :=
 OpenClaim.holds_of_wide 14 Try.f14 rfl rfl rfl rfl rfl rfl rfl ⟨rfl,rfl,rfl,rfl,rfl⟩ rfl rfl rfl rfl rfl (by kernel_rfl) Try.func14 (by kernel_rfl)
  (of_decide_eq_true (by kernel_rfl)) (by unfold Func.isWrapper;first|(rw [if_pos (by decide +kernel)];kernel_rfl)|(rw [if_neg (by decide +kernel)];exact ⟨rfl,rfl⟩))
  (fun os started H enc _=>lifted os started H enc)
theorem proved:Rows.FnWinSaid:=over
end Go.Proofs.Ytlpfmhikahlcoaa.fnWin
namespace Go.Proofs.Ytlpfmhikahlcoaa
/-- The given statement. -/
theorem fnWin_holds:Rows.FnWinSaid:=fnWin.proved
#print axioms fnWin_holds
end Go.Proofs.Ytlpfmhikahlcoaa
