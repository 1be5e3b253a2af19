-- texts of this session, merged by a program of it (wip/gen/pack.py)
import Derived.Test.YthipjoioicmcnaaKFnDecide16
import Derived.Test.YthipjoioicmcnaaKFnDecide11
import Derived.Test.YthipjoioicmcnaaKFnDecide2
import Derived.Test.YthipjoioicmcnaaKFnDecide6
import Derived.Test.YthipjoioicmcnaaKFnDecide15
set_option linter.unusedVariables false
set_option linter.unusedSimpArgs false
set_option maxHeartbeats 80000000
set_option maxRecDepth 100000
namespace Go.Proofs.Ythipjoioicmcnaa.Pure
open Go.RowKit Go.Proofs.Ythipjoioicmcnaa.G Go.Proofs.YthipjoioicmcnaaW.PrintWords Go.Proofs.YthipjoioicmcnaaW.PrintLast Go.Proofs.YthipjoioicmcnaaW.PrintMore
theorem jE (l:List Bool) (a b:Nat):(ones l).extract a b=ones ((l.take b).drop a):=by
 apply oH
 rw [ByteArray.data_extract]
 simp only [ones,Array.toList_extract,List.extract_eq_take_drop,List.map_drop,List.map_take]
 rw [List.drop_take]
def gY (l:List Bool) (h:Bool):List Bool:=if h then l.drop (l.length / 2) else l.take (l.length / 2)
theorem fO {n:Nat} {l:List Bool} (hl:l.length=2 ^ (n + 1)) (h:Bool):(gY l h).length=2 ^ n:=by
 rw [Nat.pow_succ] at hl
 cases h <;> simp [gY] <;> omega
def uT (N:Int) (s:ByteArray) (h:Int):Int × ByteArray × Bool:=if tok N s && (N != 0) && (h == 0 || h == 1) then (N - 1,ones (gY (rU s) (h == 1)),true) else (0,⟨#[]⟩,false)
theorem mR (n:Nat) (l:List Bool) (hn:n≤11) (hl:l.length=2 ^ (n + 1)) (h:Int):cB.f ((n + 1:Nat):Int) (ones l) h=some ((n:Int),ones (gY l (h != 0))):=by
 have hp:=sD (n:=n + 1) (by omega)
 unfold cB.f
 rw [fD,show ((l.length:Nat):Int) / 2=((l.length / 2:Nat):Int) by omega,jR (n:=((l.length / 2:Nat):Int)) (by omega) (by omega),jR (n:=((n + 1:Nat):Int) - 1) (by omega) (by omega),show ((n + 1:Nat):Int) - 1=(n:Int) by omega,Int.toNat_natCast]
 by_cases h0:h=0
 ·rw [if_pos h0,if_pos (by omega),if_pos (by omega),jE,h0]
  rfl
 ·have e:(h != 0)=true:=bne_iff_ne.2 h0
  rw [if_neg h0,if_pos (by omega),if_pos (by omega),jE,List.take_of_length_le (by omega),e]
  rfl
theorem mW (N:Int) (s:ByteArray) (h:Int) (hs:s.size≤1099511627776):∀ k,s.size + 20 < k→eM.f k N s h=some (uT N s h):=by
 intro k hk
 unfold eM.f uT
 rw [lC N s hs k hk,Option.bind_some]
 cases ht:tok N s with
 | false=>rfl
 | true =>
  obtain ⟨n,l,rfl,hn,hl,rfl⟩:=mX ht
  have hp:=sD hn
  rw [if_pos rfl]
  by_cases h0:(n:Int)=0
  ·rw [if_pos h0,h0]
   rfl
  ·have e0:((n:Int) != 0)=true:=bne_iff_ne.2 h0
   rw [if_neg h0,e0]
   unfold bB.f
   by_cases h1:h=0∨h=1
   ·obtain ⟨m,rfl⟩:∃ m,n=m + 1:=⟨n - 1,by omega⟩
    have hl2:l.length=2 * 2 ^ m:=by rw [hl,Nat.pow_succ,Nat.mul_comm]
    have hhalf:l.length / 2=2 ^ m:=by omega
    rw [if_pos (by omega),Option.bind_some,if_pos (by simp;omega),fD,show ((l.length:Nat):Int) / 2=((l.length / 2:Nat):Int) by omega,jR (n:=((l.length / 2:Nat):Int)) (by omega) (by omega),jR (n:=((m + 1:Nat):Int) - 1) (by omega) (by omega)]
    rcases h1 with h1|h1
    ·subst h1
     rw [Int.zero_mul,jR (n:=0) (by omega) (by omega),Int.zero_add,jR (n:=((l.length / 2:Nat):Int)) (by omega) (by omega),if_pos (by omega),if_pos (by omega),if_pos (by omega),Int.toNat_natCast,show (0:Int).toNat=0 from rfl,jE,fT]
     rfl
    ·subst h1
     rw [Int.one_mul,jR (n:=((l.length / 2:Nat):Int)) (by omega) (by omega),jR (n:=((l.length / 2:Nat):Int) + ((l.length / 2:Nat):Int)) (by omega) (by omega),if_pos (by omega),if_pos (by omega),if_pos (by omega),Int.toNat_natCast,show (((l.length / 2:Nat):Int) + ((l.length / 2:Nat):Int)).toNat=l.length by omega,jE,fT,List.take_length]
     rfl
   ·have e:(h == 0 || h == 1)=false:=by simp;omega
    rw [e]
    by_cases h2:h ≥ 0
    ·rw [if_pos h2,Option.bind_some,if_neg (by simp;omega)]
     rfl
    ·rw [if_neg h2,Option.bind_some,if_neg (by decide)]
     rfl
def mB:List Bool→List Bool→Bool
 | [],l=>l.getD 0 false
 | a :: r,l=>if a then mB r (gY l false) && mB r (gY l true) else mB r (gY l false) || mB r (gY l true)
theorem pQ (b:Bool):∀ (r l:List Bool),l.length=2 ^ r.length→l.contains (!b)=false→mB r l=b:=by
 intro r
 induction r with
 | nil =>
  intro l hl hc
  match l,hl with
  | [x],_=>cases b <;> cases x <;> simp_all [mB]
 | cons a r ih =>
  intro l hl hc
  have hsub:∀ h,(gY l h).contains (!b)=false:=by
   intro h
   rw [← Bool.not_eq_true,List.contains_iff_mem] at hc ⊢
   intro hm
   apply hc
   cases h
   ·exact List.mem_of_mem_take hm
   ·exact List.mem_of_mem_drop hm
  simp only [mB]
  rw [ih _ (fO (by simpa using hl) false) (hsub false),ih _ (fO (by simpa using hl) true) (hsub true)]
  cases a <;> cases b <;> rfl
def nE (b:Bool):Int:=if b then 1 else 0
theorem oK:∀ (r l:List Bool),r.length≤12→l.length=2 ^ r.length→∀ k,r.length + 1 < k→eH.f k r (r.length:Int) (ones l)=some (nE (mB r l)):=by
 intro r
 induction r with
 | nil =>
  intro l _ hl k hk
  obtain ⟨k,rfl⟩:∃ m,k=m + 1:=⟨k - 1,by omega⟩
  simp only [eH.f]
  match l,hl with
  | [x],_ =>
   rw [jD,Option.bind_some]
   cases x <;> rfl
 | cons a r ih =>
  intro l hr hl k hk
  obtain ⟨k,rfl⟩:∃ m,k=m + 1:=⟨k - 1,by omega⟩
  simp only [List.length_cons] at hr hl hk
  simp only [eH.f]
  rw [jD,Option.bind_some]
  cases h1:l.contains true
  ·rw [show (if false=true then (if l.contains false=true then (-1:Int) else 1) else 0)=0 from rfl,if_pos (by decide),pQ false (a :: r) l hl (by simpa using h1)]
   rfl
  ·cases h0:l.contains false
   ·rw [show (if true=true then (if false=true then (-1:Int) else 1) else 0)=1 from rfl,if_pos (by decide),pQ true (a :: r) l hl (by simpa using h0)]
    rfl
   ·rw [show (if true=true then (if true=true then (-1:Int) else 1) else 0) = -1 from rfl,if_neg (by decide),List.length_cons,if_pos (by omega),mR r.length l (by omega) hl 0,Option.bind_some,mR r.length l (by omega) hl 1]
    simp only [Option.bind_some,List.drop_one,List.tail_cons]
    rw [ih _ (by omega) (fO hl _) k (by omega),ih _ (by omega) (fO hl _) k (by omega)]
    simp only [Option.bind_some]
    rw [if_pos (by omega),show cL false (a :: r) 0=a from rfl]
    simp only [mB]
    have e0:((0:Int) != 0)=false:=rfl
    have e1:((1:Int) != 0)=true:=rfl
    rw [e0,e1]
    cases a <;> cases mB r (gY l false) <;> cases mB r (gY l true) <;> rfl
theorem oV:∀ (r l:List Bool),r.length≤12→l.length=2 ^ r.length→∀ k,r.length + 4200 < k→cH.f k r (r.length:Int) (ones l)=some (nE (mB r l)):=by
 intro r
 induction r with
 | nil =>
  intro l _ hl k hk
  obtain ⟨k,rfl⟩:∃ m,k=m + 1:=⟨k - 1,by omega⟩
  simp only [cH.f]
  match l,hl with
  | [x],_ =>
   rw [if_pos (show ((([]:List Bool).length:Nat):Int)=0 from rfl),if_pos (by rw [fD];simp),show bt (ones [x]) 0=nJ x from qJ [x] 0 (by simp)]
   cases x <;> decide +kernel
 | cons a r ih =>
  intro l hr hl k hk
  obtain ⟨k,rfl⟩:∃ m,k=m + 1:=⟨k - 1,by omega⟩
  simp only [List.length_cons] at hr hl hk
  have hp:=sD (n:=r.length + 1) (by omega)
  have ht:tok ((r.length + 1:Nat):Int) (ones l)=true:=mY (by omega) hl
  have h0:(((r.length + 1:Nat):Int) != 0)=true:=by rw [bne_iff_ne];omega
  have hh:∀ h:Int,(h=0∨h=1)→uT ((r.length + 1:Nat):Int) (ones l) h=((r.length:Int),ones (gY l (h == 1)),true):=by
   intro h hh
   unfold uT
   rw [ht,h0,show (h == 0 || h == 1)=true from by simpa using hh,if_pos (by decide),fT,show ((r.length + 1:Nat):Int) - 1=(r.length:Int) by omega]
  simp only [cH.f,List.length_cons]
  rw [if_neg (by omega),mW _ _ 0 (by rw [fD];omega) k (by rw [fD];omega),mW _ _ 1 (by rw [fD];omega) k (by rw [fD];omega),hh 0 (.inl rfl),hh 1 (.inr rfl)]
  simp only [Option.bind_some,List.drop_one,List.tail_cons]
  rw [if_pos (by omega),ih _ (by omega) (fO hl _) k (by omega),ih _ (by omega) (fO hl _) k (by omega)]
  simp only [Option.bind_some]
  rw [if_pos (by omega),show cL false (a :: r) 0=a from rfl]
  simp only [mB]
  have e0:((0:Int) == 1)=false:=rfl
  have e1:((1:Int) == 1)=true:=rfl
  rw [e0,e1]
  have key:∀ a b c:Bool,(if a=true then some (Go.bits .and .i64 (nE b) (nE c)) else some (Go.bits .or .i64 (nE b) (nE c)))=some (nE (if a=true then b && c else b || c)):=by decide +kernel
  exact key a _ _
def pI (r:List Bool) (N:Int) (s:ByteArray):Int × Bool:=if tok N s && ((r.length:Int) == N) then (nE (mB r (rU s)),true) else (0,false)
theorem jJ (r:List Bool) (N:Int) (s:ByteArray) (hs:s.size≤1099511627776):∀ k,s.size + 40 < k→eU.f k r N s=some (pI r N s):=by
 intro k hk
 unfold eU.f iC.f pI
 rw [lB N s hs k (by omega),Option.bind_some]
 cases ht:tok N s with
 | false=>rfl
 | true =>
  obtain ⟨n,l,rfl,hn,hl,rfl⟩:=mX ht
  rw [if_pos rfl,Option.bind_some,fT,Bool.true_and]
  by_cases hr:(r.length:Int)=(n:Int)
  ·have hr2:r.length=n:=by omega
   subst hr2
   rw [if_pos (by simp),if_pos (by simp),oK r l hn hl k (by omega)]
   rfl
  ·rw [if_neg (by simpa using hr),if_neg (by simpa using hr)]
theorem oU (r:List Bool) (N:Int) (s:ByteArray) (hs:s.size≤1099511627776):∀ k,s.size + 4300 < k→gL.f k r N s=some (pI r N s):=by
 intro k hk
 unfold gL.f iE.f pI
 rw [lC N s hs k (by omega),Option.bind_some]
 cases ht:tok N s with
 | false=>rfl
 | true =>
  obtain ⟨n,l,rfl,hn,hl,rfl⟩:=mX ht
  rw [if_pos rfl,Option.bind_some,fT,Bool.true_and]
  by_cases hr:(r.length:Int)=(n:Int)
  ·have hr2:r.length=n:=by omega
   subst hr2
   rw [if_pos (by simp),if_pos (by simp),oV r l hn hl k (by omega)]
   rfl
  ·rw [if_neg (by simpa using hr),if_neg (by simpa using hr)]
end Go.Proofs.Ythipjoioicmcnaa.Pure
