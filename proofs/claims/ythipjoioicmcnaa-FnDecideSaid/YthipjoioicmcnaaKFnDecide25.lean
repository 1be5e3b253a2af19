-- texts of this session, merged by a program of it (wip/gen/pack.py)
import Derived.Test.YthipjoioicmcnaaKFnDecide12
import Derived.Test.YthipjoioicmcnaaKFnDecide19
import Derived.Test.YthipjoioicmcnaaKFnDecide6
import Derived.Test.YthipjoioicmcnaaKFnDecide2
import Derived.Test.YthipjoioicmcnaaKFnDecide11
import Derived.Test.YthipjoioicmcnaaKFnDecide15
set_option linter.unusedVariables false
set_option linter.unusedSimpArgs false
set_option maxHeartbeats 80000000
set_option maxRecDepth 100000
namespace Go.Proofs.Ythipjoioicmcnaa.Pure
open Go.RowKit Go.Proofs.Ythipjoioicmcnaa.G Go.Proofs.YthipjoioicmcnaaW.PrintWords Go.Proofs.YthipjoioicmcnaaW.PrintLast Go.Proofs.YthipjoioicmcnaaW.PrintMore
theorem qD (x:Int):0≤Go.bits .and .i64 x 255∧Go.bits .and .i64 x 255≤255:=by
 simp only [Go.bits,BitVec.toNat_and]
 have h:(BitVec.ofInt IntKind.i64.bits x).toNat &&& (BitVec.ofInt IntKind.i64.bits 255).toNat≤255:=Nat.le_trans Nat.and_le_right (by decide)
 rw [jI _ (by omega) (by omega)]
 omega
def gA (b:List Int) (i:Int):Prop:=0≤i∧i≤b.length∧b.length≤1099511627776
theorem aAC {b:List Int} {i:Int} (h:Int) (hi:gA b i):∃ v i' h',dY.f b i h=some (v,i',h')∧0≤v∧v≤255∧gA b i':=by
 unfold dY.f
 obtain ⟨h0,h1,h2⟩:=hi
 by_cases hc:i < (b.length:Int)
 ·rw [if_pos hc,if_pos h0]
  exact ⟨_,_,_,rfl,(qD _).1,(qD _).2,by rw [jR (by omega) (by omega)];exact ⟨by omega,by omega,h2⟩⟩
 ·rw [if_neg hc]
  exact ⟨_,_,_,rfl,(qD _).1,(qD _).2,h0,h1,h2⟩
theorem fG {b:List Int} {i:Int} (h a:Int) (hi:gA b i) (h0:0 < a) (h1:a≤256):∃ v i' h',bG.f b i h a=some (v,i',h')∧0≤v∧v < a∧gA b i':=by
 unfold bG.f
 obtain ⟨v,i',h',e,hv0,hv1,hi'⟩:=aAC h hi
 rw [if_neg (by omega),if_pos h1,e,Option.bind_some,if_neg (by omega)]
 refine ⟨_,_,_,rfl,?_,?_,hi'⟩
 ·simp only;rw [Int.tmod_eq_emod_of_nonneg hv0];exact Int.emod_nonneg _ (by omega)
 ·simp only;rw [Int.tmod_eq_emod_of_nonneg hv0];exact Int.emod_lt_of_pos _ h0
theorem kW {b:List Int} {i:Int} (h a:Int) (hi:gA b i) (h0:0 < a) (h1:a≤256):∃ t i' h',dF.f b i h a=some (t,i',h')∧gA b i':=by
 unfold dF.f
 obtain ⟨v,i',h',e,_,_,hi'⟩:=fG h a hi h0 h1
 rw [e,Option.bind_some]
 exact ⟨_,_,_,rfl,hi'⟩
theorem vK {b:List Int} (hb:b.length≤1099511627776):gA b 0:=⟨by omega,by omega,hb⟩
theorem uG (n:Int) (b:List Int) (i h:Int) (xs:List Int) (hx:xs.length≤4096):∀ k,xs.length < k→bN.l1 k n xs 0 b i h=some (n,ones (List.replicate xs.length true),i,h):=by
 intro k hk
 rw [← iN,List.map_replicate]
 have h1:=rounds (fun k j=>bN.l1 k n ((List.replicate xs.length (nJ true)).take j ++ xs.drop j) (j:Int) b i h) xs.length (n,strOfNums (List.replicate xs.length (nJ true)),i,h) ?_ ?_ k hk
 ·simpa using h1
 ·intro k j hj
  simp only [bN.l1]
  rw [if_pos (by simp;omega),if_pos (by omega),eP j (by omega),Int.toNat_natCast,show (49:Int)=nJ true from rfl,pY (List.replicate xs.length (nJ true)) xs j (nJ true) (by simp) hj (by simp [hj])]
 ·intro k
  simp only [bN.l1]
  rw [if_neg (by simp),List.take_of_length_le (by simp)]
  simp
theorem qH {v:Int} (h0:0≤v) (h1:v < 2):wrap64 (48 + v) % 256=nJ (v == 1):=by
 rcases (show v=0∨v=1 by omega) with h|h <;> subst h <;> decide +kernel
end Go.Proofs.Ythipjoioicmcnaa.Pure
