-- texts of this session, merged by a program of it (wip/gen/pack.py)
import Derived.Test.YtlpfmhikahlcoaaKFnExactMachineStep12
import Derived.Laws.BitsLemmas
import Derived.Test.YtlpfmhikahlcoaaKFnExactMachineStep4
import Derived.Test.YtlpfmhikahlcoaaKFnExactMachineStep7
import Derived.Test.YtlpfmhikahlcoaaKFnExactMachineStep2
import Derived.Test.YtlpfmhikahlcoaaKFnExactMachineStep6
import Derived.Test.YtlpfmhikahlcoaaKFnExactMachineStep5
import Derived.Test.YtlpfmhikahlcoaaKFnExactMachineStep8
import Derived.Test.YtlpfmhikahlcoaaKFnExactMachineStep9
import Derived.Test.YtlpfmhikahlcoaaKFnExactMachineStep3
import Derived.Test.YtlpfmhikahlcoaaKFnExactMachineStep11
import Derived.Test.YtlpfmhikahlcoaaKFnExactMachineStep10
import Derived.ProofKit
import Derived.WalkKit
import Derived.Deep.Slices
import Derived.OpenShut
import Derived.ChangeVars
import Derived.ChangeOld
import Derived.Below
import Derived.Test.YtlpfmhikahlcoaaKFnExactMachineStep1
import Derived.Test.YtlpfmhikahlcoaaRows
import Derived.ShutString
set_option linter.unusedSimpArgs false
set_option linter.unusedVariables false
namespace Go.Proofs.Ytlpfmhikahlcoaa.Pure
open Go.RowKit Go.Proofs.Ytlpfmhikahlcoaa.G Go.Proofs.YtlpfmhikahlcoaaW.PrintWords Go.Proofs.YtlpfmhikahlcoaaW.PrintLast Go.Proofs.YtlpfmhikahlcoaaW.PrintMore
theorem rounds_all {R:Type} (L:Nat→Nat→Option R) (n:Nat) (p:Nat→Bool) (r bad:R) (step:∀ k i,i < n→p i=true→L (k + 1) i=L k (i + 1)) (exit:∀ k i,i < n→p i=false→L (k + 1) i=some bad)
    (stop:∀ k,L (k + 1) n=some r):∀ k,n < k→L k 0=some (if (List.range n).all p then r else bad) :=
  rounds_pre L n p r bad (fun k i hi _ hp=>step k i hi hp) (fun k i hi _ hp=>exit k i hi hp) (fun k _=>stop k)
def sgn (b:Bool):Int:=if b then 49 else 48
def ones (l:List Bool):ByteArray:=⟨(l.map fun b=>if b then (49:UInt8) else 48).toArray⟩
theorem ones_size (l:List Bool):(ones l).size=l.length:=by
  show (l.map fun b=>if b then (49:UInt8) else 48).toArray.size=_
  simp
theorem bt_ones (l:List Bool) (i:Nat) (h:i < l.length):bt (ones l) (i:Int)=sgn (l.getD i false):=by
  have hs:i < (ones l).size:=by rw [ones_size];exact h
  rw [bt_nat _ i hs,getD_lt l i false h]
  have e:(ones l)[i]=if l[i] then (49:UInt8) else 48:=by
    have h1:(ones l).data.toList[i]? = some (ones l)[i]:=by
      rw [List.getElem?_eq_getElem (by simpa using hs)]
      rfl
    have h2:(ones l).data.toList[i]? = some (if l[i] then (49:UInt8) else 48):=by simp [ones,h]
    exact Option.some.inj (h1.symm.trans h2)
  rw [e]
  unfold sgn
  cases l[i] <;> rfl
theorem data_inj {a b:ByteArray} (h:a.data.toList=b.data.toList):a=b:=by
  cases a;cases b
  simp only [ByteArray.mk.injEq]
  exact Array.toList_inj.1 h
theorem toList_inj {a b:ByteArray}:a.toList=b.toList↔a=b:=by
  rw [toList_data,toList_data]
  exact ⟨data_inj,fun h=>h ▸ rfl⟩
def tok (N:Int) (s:ByteArray):Bool:=decide (0≤N∧N≤12∧(s.size:Int)=2 ^ N.toNat) && (List.range s.size).all fun (i:Nat)=>bt s (i:Int) == 48 || bt s (i:Int) == 49
theorem tok_form {N:Int} {s:ByteArray} (h:tok N s=true):∃ (n:Nat) (l:List Bool),N=(n:Int)∧n≤12∧l.length=2 ^ n∧s=ones l:=by
  unfold tok at h
  simp only [Bool.and_eq_true,decide_eq_true_eq] at h
  obtain ⟨⟨h0,h1,h2⟩,h3⟩:=h
  obtain ⟨n,rfl⟩:=Int.eq_ofNat_of_zero_le h0
  have h2':s.size=2 ^ n:=by
    rw [Int.toNat_natCast] at h2
    exact_mod_cast h2
  refine ⟨n,(List.range s.size).map fun (i:Nat)=>decide (bt s (i:Int)=49),rfl,by omega,by simp [h2'],?_⟩
  apply data_inj
  apply List.ext_getElem?
  intro i
  rcases Nat.lt_or_ge i s.size with hi|hi
  · have hb:=List.all_eq_true.1 h3 i (by simpa using hi)
    have e:s.data.toList[i]? = some s[i]:=by
      rw [List.getElem?_eq_getElem (by simpa using hi)]
      rfl
    rw [e]
    have hv:=bt_nat s i hi
    simp only [ones,List.map_map,List.getElem?_map,List.getElem?_range hi,Option.map_some,Function.comp]
    congr 1
    simp only [Bool.or_eq_true,beq_iff_eq] at hb
    have hd : ∀ c : UInt8, ((c.toNat : Int) = 48 → c = 48) ∧ ((c.toNat : Int) = 49 → c = 49) := fun c => ⟨fun h => UInt8.toNat_inj.1 (by have : c.toNat = 48 := by omega
                                                                                                                                         rw [this]; rfl), fun h => UInt8.toNat_inj.1 (by have : c.toNat = 49 := by omega
                                                                                                                                                                                         rw [this];rfl)⟩
    rcases hb with hb|hb
    · have hc:=(hd s[i]).1 (hv ▸ hb)
      simp [hb,hc]
    · have hc:=(hd s[i]).2 (hv ▸ hb)
      simp [hb,hc]
  · rw [List.getElem?_eq_none (by simpa using hi),List.getElem?_eq_none (by simp [ones];exact hi)]
theorem tok_ones {n:Nat} {l:List Bool} (hn:n≤12) (hl:l.length=2 ^ n):tok (n:Int) (ones l)=true:=by
  unfold tok
  rw [Bool.and_eq_true]
  refine ⟨decide_eq_true ⟨by omega,by omega,?_⟩,List.all_eq_true.2 fun i hi=>?_⟩
  · rw [ones_size,hl,Int.toNat_natCast]
    norm_cast
  · have hi':i < l.length:=by rw [ones_size] at hi;simpa using hi
    rw [bt_ones l i hi']
    unfold sgn
    cases l.getD i false <;> rfl
theorem pow12 {n:Nat} (hn:n≤12):2 ^ n≤4096:=Nat.pow_le_pow_right (by decide) hn
theorem pow62 {n:Nat} (hn:n≤61):(2:Int) ^ n≤2305843009213693952:=by
  have h:2 ^ n≤2 ^ 61:=Nat.pow_le_pow_right (by decide) hn
  have h2:((2 ^ n:Nat):Int)≤((2 ^ 61:Nat):Int):=by exact_mod_cast h
  have h3:((2 ^ n:Nat):Int)=(2:Int) ^ n:=by norm_cast
  omega
theorem pow_pos_ (n:Nat):(1:Int)≤2 ^ n:=by
  have h:1≤2 ^ n:=Nat.one_le_two_pow
  have h2:((1:Nat):Int)≤((2 ^ n:Nat):Int):=by exact_mod_cast h
  have h3:((2 ^ n:Nat):Int)=(2:Int) ^ n:=by norm_cast
  omega
theorem pow2_eq (n:Nat) (hn:n≤60):∀ k,n < k→spec_l01Pow2.f k (n:Int)=some ((2:Int) ^ n):=by
  intro k hk
  unfold spec_l01Pow2.f
  refine rounds (fun k i=>spec_l01Pow2.l0 k (n:Int) ((2:Int) ^ i) (i:Int)) n _ ?_ ?_ k hk
  · intro k i hi
    simp only [spec_l01Pow2.l0]
    have h1:=pow62 (n:=i + 1) (by omega)
    have h2:=pow_pos_ i
    rw [if_pos (by omega),w64s i (by omega),show (2:Int) * 2 ^ i=2 ^ (i + 1) from by rw [Int.pow_succ];omega,w64 (by have:=pow_pos_ (i + 1);omega) (by omega)]
  · intro k
    simp only [spec_l01Pow2.l0]
    rw [if_neg (by omega)]
theorem spec_TableOk_eq (N:Int) (s:ByteArray) (hs:s.size≤1099511627776):∀ k,s.size + 20 < k→spec_TableOk.f k N s=some (tok N s):=by
  intro k hk
  obtain ⟨k,rfl⟩:∃ m,k=m + 1:=⟨k - 1,by omega⟩
  unfold spec_TableOk.f spec_l01In.f
  by_cases h0:N ≥ 0
  · rw [if_pos h0]
    by_cases h1:N≤12
    · obtain ⟨n,rfl⟩:=Int.eq_ofNat_of_zero_le h0
      simp only [h1,decide_true,Option.bind_some,if_true]
      rw [pow2_eq n (by omega) (k + 1) (by omega)]
      simp only [Option.bind_some,spec_TableOk.j0]
      by_cases h2:(s.size:Int)=2 ^ n
      · rw [if_neg (by simp [h2])]
        have h:=rounds_all (fun k i=>spec_TableOk.l0 k (i:Int) (n:Int) s) s.size (fun i=>bt s i == 48 || bt s i == 49) true false ?_ ?_ ?_ k (by omega)
        · refine h.trans ?_
          unfold tok
          rw [decide_eq_true (⟨h0,h1,by rw [Int.toNat_natCast];exact h2⟩:0≤(n:Int)∧(n:Int)≤12∧(s.size:Int)=2 ^ (n:Int).toNat),Bool.true_and]
          congr 1
          split <;> simp_all
        · intro k i hi hp
          simp only [spec_TableOk.l0]
          simp only [Bool.or_eq_true,beq_iff_eq] at hp
          rw [if_pos (by omega),if_pos (by omega),w64s i (by omega)]
          rcases hp with hp|hp
          · rw [if_pos hp]
          · rw [if_neg (by omega),if_pos hp]
        · intro k i hi hp
          simp only [spec_TableOk.l0]
          simp only [Bool.or_eq_false_iff,beq_eq_false_iff_ne] at hp
          rw [if_pos (by omega),if_pos (by omega),if_neg hp.1,if_neg hp.2]
        · intro k
          simp only [spec_TableOk.l0]
          rw [if_neg (by omega)]
      · rw [if_pos (by simpa using h2)]
        unfold tok
        rw [decide_eq_false (by rintro ⟨_,_,h⟩;rw [Int.toNat_natCast] at h;exact h2 h),Bool.false_and]
    · simp only [h1,decide_false,Option.bind_some]
      simp only [Bool.false_eq_true,if_false,spec_TableOk.j0,if_true]
      unfold tok
      rw [decide_eq_false (by omega),Bool.false_and]
  · rw [if_neg h0]
    simp only [Option.bind_some,Bool.false_eq_true,if_false,spec_TableOk.j0,if_true]
    unfold tok
    rw [decide_eq_false (by omega),Bool.false_and]
theorem shl_eq (n:Nat) (hn:n≤60):shl .i64 1 (n:Int)=(2:Int) ^ n:=by
  unfold shl
  rw [Int.toNat_natCast,show min n IntKind.i64.bits=n from by simp [IntKind.bits];omega,Int.one_mul,IntKind.wrap_i64]
  have h1:=pow62 (n:=n) (by omega)
  have h2:=pow_pos_ n
  omega
theorem impl_TableOk_eq (N:Int) (s:ByteArray) (hs:s.size≤1099511627776):∀ k,s.size + 20 < k→impl_TableOk.f k N s=some (tok N s):=by
  intro k hk
  obtain ⟨k,rfl⟩:∃ m,k=m + 1:=⟨k - 1,by omega⟩
  unfold impl_TableOk.f impl_within.f
  by_cases h0:N ≥ 0
  · rw [if_pos h0]
    by_cases h1:N≤12
    · obtain ⟨n,rfl⟩:=Int.eq_ofNat_of_zero_le h0
      simp only [h1,decide_true,Option.bind_some,if_true]
      rw [u64_of (by omega) (by omega),if_pos (by omega),shl_eq n (by omega)]
      simp only [impl_TableOk.j0]
      by_cases h2:(s.size:Int)=2 ^ n
      · rw [if_neg (by simp [h2])]
        have h:=rounds_all (fun k i=>impl_TableOk.l0 k (s.size:Int) (i:Int) (n:Int) s) s.size (fun i=>bt s i == 48 || bt s i == 49) true false ?_ ?_ ?_ k (by omega)
        · refine h.trans ?_
          unfold tok
          rw [decide_eq_true (⟨h0,h1,by rw [Int.toNat_natCast];exact h2⟩:0≤(n:Int)∧(n:Int)≤12∧(s.size:Int)=2 ^ (n:Int).toNat),Bool.true_and]
          congr 1
          split <;> simp_all
        · intro k i hi hp
          simp only [impl_TableOk.l0]
          simp only [Bool.or_eq_true,beq_iff_eq] at hp
          rw [if_pos (by omega),if_pos (by omega),if_pos (by omega),w64s i (by omega)]
          rcases hp with hp|hp
          · rw [if_pos hp]
          · rw [if_neg (by omega),if_pos hp]
        · intro k i hi hp
          simp only [impl_TableOk.l0]
          simp only [Bool.or_eq_false_iff,beq_eq_false_iff_ne] at hp
          rw [if_pos (by omega),if_pos (by omega),if_pos (by omega),if_neg hp.1,if_neg hp.2]
        · intro k
          simp only [impl_TableOk.l0]
          rw [if_neg (by omega)]
      · rw [if_pos (by simpa using h2)]
        unfold tok
        rw [decide_eq_false (by rintro ⟨_,_,h⟩;rw [Int.toNat_natCast] at h;exact h2 h),Bool.false_and]
    · simp only [h1,decide_false,Option.bind_some]
      simp only [Bool.false_eq_true,if_false,impl_TableOk.j0,if_true]
      unfold tok
      rw [decide_eq_false (by omega),Bool.false_and]
  · rw [if_neg h0]
    simp only [Option.bind_some,Bool.false_eq_true,if_false,impl_TableOk.j0,if_true]
    unfold tok
    rw [decide_eq_false (by omega),Bool.false_and]
def plc (l:List Int):Int:=l.foldl (fun a b=>2 * a + b) 0
def isBit (b:Int):Bool:=b == 0 || b == 1
theorem plc_snoc (l:List Int) (b:Int):plc (l ++ [b])=2 * plc l + b:=by simp [plc,List.foldl_append]
theorem plc_bd (l:List Int) (i:Nat) (hi:i≤l.length) (h:∀ j,j < i→isBit (l.getD j 0)=true):0≤plc (l.take i)∧plc (l.take i) < 2 ^ i:=by
  induction i with
  | zero=>simp [plc]
  | succ i ih =>
    obtain ⟨h0,h1⟩:=ih (by omega) (fun j hj=>h j (by omega))
    have hb:=h i (by omega)
    simp only [isBit,Bool.or_eq_true,beq_iff_eq] at hb
    rw [take_succ_getD l i 0 (by omega),plc_snoc,Int.pow_succ]
    omega
theorem all_getD (l:List Int) (p:Int→Bool):(List.range l.length).all (fun i=>p (l.getD i 0))=l.all p:=by
  rw [Bool.eq_iff_iff,List.all_eq_true,List.all_eq_true]
  constructor
  · intro h x hx
    obtain ⟨i,hi,rfl⟩:=List.getElem_of_mem hx
    have:=h i (by simpa using hi)
    rwa [getD_lt l i 0 hi] at this
  · intro h i hi
    have hi':i < l.length:=by simpa using hi
    rw [getD_lt l i 0 hi']
    exact h _ (List.getElem_mem hi')
theorem placeOfBits_eq (l:List Int) (hl:l.length≤60):∀ k,l.length < k→impl_placeOfBits.f k l=some (if l.all isBit then (plc l,true) else (0,false)):=by
  intro k hk
  unfold impl_placeOfBits.f
  rw [← all_getD l isBit]
  have h:=rounds_pre (fun k i=>impl_placeOfBits.l0 k (plc (l.take i)) l (l.length:Int) (i:Int)) l.length (fun i=>isBit (l.getD i 0)) (plc l,true) (0,false) ?_ ?_ ?_ k hk
  · simpa [plc] using h
  · intro k i hi hp hb
    simp only [isBit,Bool.or_eq_true,beq_iff_eq] at hb
    obtain ⟨h0,h1⟩:=plc_bd l i (by omega) hp
    have hw:=pow62 (n:=i) (by omega)
    simp only [impl_placeOfBits.l0]
    rw [if_pos (by omega),if_pos (by omega),if_pos (by omega),rd_nat,w64s i (by omega),take_succ_getD l i 0 hi,plc_snoc,w64 (n:=2 * plc (l.take i)) (by omega) (by omega),w64 (by omega) (by omega)]
    rcases hb with hb|hb
    · rw [if_pos hb]
    · rw [if_neg (by omega),if_pos hb]
  · intro k i hi hp hb
    simp only [isBit,Bool.or_eq_false_iff,beq_eq_false_iff_ne] at hb
    simp only [impl_placeOfBits.l0]
    rw [if_pos (by omega),if_pos (by omega),if_pos (by omega),rd_nat,if_neg hb.1,if_neg hb.2]
  · intro k hp
    simp only [impl_placeOfBits.l0]
    rw [if_neg (by omega),List.take_length]
theorem placeOfBits_any (l:List Int) (hl:l.length≤1099511627776):∃ x,∀ k,l.length < k→impl_placeOfBits.f k l=some (if l.all isBit then (x,true) else (0,false)):=by
  refine ⟨l.foldl (fun a b=>wrap64 (wrap64 (2 * a) + b)) 0,fun k hk=>?_⟩
  unfold impl_placeOfBits.f
  rw [← all_getD l isBit]
  have h:=rounds_pre (fun k i=>impl_placeOfBits.l0 k ((l.take i).foldl (fun a b=>wrap64 (wrap64 (2 * a) + b)) 0) l (l.length:Int) (i:Int)) l.length (fun i=>isBit (l.getD i 0)) (l.foldl (fun a b=>wrap64 (wrap64 (2 * a) + b)) 0,true) (0,false) ?_ ?_ ?_ k hk
  · simpa using h
  · intro k i hi hp hb
    simp only [isBit,Bool.or_eq_true,beq_iff_eq] at hb
    simp only [impl_placeOfBits.l0]
    rw [if_pos (by omega),if_pos (by omega),if_pos (by omega),rd_nat,w64s i (by omega),take_succ_getD l i 0 hi,List.foldl_append]
    rcases hb with hb|hb
    · rw [if_pos hb];rfl
    · rw [if_neg (by omega),if_pos hb];rfl
  · intro k i hi hp hb
    simp only [isBit,Bool.or_eq_false_iff,beq_eq_false_iff_ne] at hb
    simp only [impl_placeOfBits.l0]
    rw [if_pos (by omega),if_pos (by omega),if_pos (by omega),rd_nat,if_neg hb.1,if_neg hb.2]
  · intro k hp
    simp only [impl_placeOfBits.l0]
    rw [if_neg (by omega),List.take_length]
def cvS (l:List S130):List S86:=l.map fun x=>⟨x.f0,x.f1⟩
theorem cvS_length (l:List S130):(cvS l).length=l.length:=by simp [cvS]
theorem rdS_nat (L:List S86) (i:Nat):rd_T86 L (i:Int)=L.getD i z86:=by unfold rd_T86;simp
theorem rdSL_nat (L:List S130) (i:Nat):rd_T130 L (i:Int)=L.getD i z130:=by unfold rd_T130;simp
theorem toSeenS_eq (l:List S130) (hl:l.length≤1099511627776):∀ k,l.length < k→laws_toSeenS.f k l=some (cvS l):=by
  intro k hk
  unfold laws_toSeenS.f
  rw [if_pos (by omega),if_pos (by omega),Int.toNat_natCast]
  have h:=rounds (fun k i=>laws_toSeenS.l0 k l ((cvS l).take i ++ (List.replicate l.length z86).drop i) (i:Int)) l.length (cvS l) ?_ ?_ k hk
  · simpa using h
  · intro k i hi
    simp only [laws_toSeenS.l0,laws_toSeen.f]
    rw [if_pos (by omega),if_pos (by omega),Option.bind_some,if_pos (by simp [cvS];omega),rdSL_nat,w64s i (by omega),Int.toNat_natCast,getD_lt l i _ hi,set_front (cvS l) (List.replicate l.length z86) i _ (by simp [cvS]) (by simpa using hi) (by simp [cvS,hi])]
  · intro k
    simp only [laws_toSeenS.l0]
    rw [if_neg (by omega),List.take_of_length_le (by simp [cvS])]
    simp
theorem toMachine_ev (r:List Bool) (N:Int) (s:ByteArray) (rm:Int) (v:List Int) (rt:Int) (o:Bool) (a b c:Int) (m:List S130) (hr:r.length≤1099511627776) (hv:v.length≤1099511627776) (hm:m.length≤1099511627776) :
    Ev (fun k=>laws_toMachine.f k r N s rm v rt o a b c m) (r,N,s,rm,v,rt,o,a,b,c,cvS m):=by
  refine ev_ge (r.length + v.length + m.length) fun k hk=>?_
  unfold laws_toMachine.f laws_toTable.f
  rw [toBoolS_eq r hr k (by omega),Option.bind_some,Option.bind_some,toIntS_eq v hv k (by omega),Option.bind_some,toSeenS_eq m hm k (by omega),Option.bind_some]
theorem eqSeenS_self (l:List S86) (hl:l.length≤1099511627776):∀ k,l.length < k→laws_eqSeenS.f k l l=some true:=by
  intro k hk
  unfold laws_eqSeenS.f
  rw [if_pos rfl]
  refine rounds (fun k i=>laws_eqSeenS.l0 k l l (i:Int)) l.length true ?_ ?_ k hk
  · intro k i hi
    simp only [laws_eqSeenS.l0,laws_eqSeen.f,if_true,Option.bind_some]
    rw [if_pos (by omega),if_pos (by omega),if_pos (by omega),w64s i (by omega)]
  · intro k
    simp only [laws_eqSeenS.l0]
    rw [if_neg (by omega)]
theorem eqTable_same (N:Int) (s:ByteArray):laws_eqTable.f N s N s=some true:=by unfold laws_eqTable.f;rw [if_pos rfl,if_pos rfl]
theorem eqMachine_ev (r:List Bool) (N:Int) (s:ByteArray) (rm:Int) (v:List Int) (rt:Int) (o:Bool) (a b c:Int) (m:List S86) (hr:r.length≤1099511627776) (hv:v.length≤1099511627776) (hm:m.length≤1099511627776) :
    Ev (fun k=>laws_eqMachine.f k r N s rm v rt o a b c m r N s rm v rt o a b c m) true:=by
  refine ev_ge (r.length + v.length + m.length) fun k hk=>?_
  unfold laws_eqMachine.f
  rw [eqBoolS_self r hr k (by omega),Option.bind_some,if_pos rfl,eqTable_same,Option.bind_some,if_pos rfl,if_pos rfl,eqIntS_self v hv k (by omega),Option.bind_some,if_pos rfl,if_pos rfl,bne_self_eq_false,if_neg (by decide),if_pos rfl,if_pos rfl,if_pos rfl,eqSeenS_self m hm k (by omega),Option.bind_some,if_pos rfl]
theorem szSeenS_ev (m:List S130) (x:Int) (hm:m.length≤maxLen) (hs:∀ y∈m,y.f0.size≤maxLen) (h0:0≤x) (h1:x≤1048576) :
    ∃ y,Ev (fun k=>laws_szSeenS.f k m x) y∧(0≤y→(m.length:Int)≤x∧y≤1048576):=by
  unfold maxLen at hm hs
  by_cases hl:(m.length:Int)≤x
  · have h:∀ d i,i + d=m.length→∀ z:Int,0≤z→z≤1048576→∃ y,Ev (fun k=>laws_szSeenS.l0 k m z (i:Int)) y∧(0≤y→y≤1048576):=by
      intro d
      induction d with
      | zero =>
        intro i hi z hz0 hz1
        refine ⟨z,ev_step (f:=fun _=>some z) (fun k=>?_) (ev_some _),fun _=>hz1⟩
        simp only [laws_szSeenS.l0]
        rw [if_neg (by omega)]
      | succ d ih =>
        intro i hi z hz0 hz1
        have hmem:rd_T130 m (i:Int)∈m:=by rw [rdSL_nat,getD_lt m i _ (by omega)];exact List.getElem_mem _
        have hsz:=hs _ hmem
        have hw:wrap64 (z - ((rd_T130 m (i:Int)).f0.size:Int))=z - (rd_T130 m (i:Int)).f0.size:=w64 (by omega) (by omega)
        by_cases hb:z - ((rd_T130 m (i:Int)).f0.size:Int) < 0
        · refine ⟨-1,ev_step (f:=fun _=>some (-1)) (fun k=>?_) (ev_some _),fun h=>absurd h (by decide)⟩
          simp only [laws_szSeenS.l0,laws_szSeen.f]
          rw [if_pos (by omega),if_pos (by omega),hw,if_pos hb,Option.bind_some,if_pos (by decide)]
        · obtain ⟨y,hy,h2⟩:=ih (i + 1) (by omega) (z - (rd_T130 m (i:Int)).f0.size) (by omega) (by omega)
          refine ⟨y,ev_step (fun k=>?_) hy,h2⟩
          simp only [laws_szSeenS.l0,laws_szSeen.f]
          rw [if_pos (by omega),if_pos (by omega),hw,if_neg hb,Option.bind_some,if_neg hb,w64s i (by omega)]
    obtain ⟨y,hy,h2⟩:=h m.length 0 (by omega) (x - m.length) (by omega) (by omega)
    refine ⟨y,ev_eq (fun k=>?_) hy,fun h=>⟨hl,h2 h⟩⟩
    unfold laws_szSeenS.f
    rw [w64 (by omega) (by omega),if_neg (by omega)]
    rfl
  · refine ⟨-1,ev_eq (f:=fun _=>some (-1)) (fun k=>?_) (ev_some _),fun h=>absurd h (by decide)⟩
    unfold laws_szSeenS.f
    rw [w64 (by omega) (by omega),if_pos (by omega)]
theorem szMachine_ev (r:List Bool) (N:Int) (s:ByteArray) (rm:Int) (v:List Int) (rt:Int) (o:Bool) (a b c:Int) (m:List S130) (hr:r.length≤maxLen) (hs:s.size≤maxLen) (hv:v.length≤maxLen) (hm:m.length≤maxLen) (hk:∀ y∈m,y.f0.size≤maxLen) :
    ∃ y,Ev (fun k=>laws_szMachine.f k r N s rm v rt o a b c m 1048576) y∧(0≤y→r.length≤1048576∧s.size≤1048576∧v.length≤1048576∧m.length≤1048576):=by
  unfold maxLen at hr hs hv
  unfold laws_szMachine.f laws_szBoolS.f laws_szTable.f laws_szIntS.f
  have hw1:wrap64 (1048576 - (r.length:Int))=1048576 - r.length:=w64 (by omega) (by omega)
  simp only [hw1]
  by_cases h1:1048576 - (r.length:Int) < 0
  · exact ⟨-1,ev_eq (f:=fun _=>some (-1)) (fun k=>by rw [if_pos h1,Option.bind_some,if_pos (by decide)]) (ev_some _),fun h=>absurd h (by decide)⟩
  simp only [if_neg h1,Option.bind_some]
  have hw2:wrap64 (1048576 - (r.length:Int) - s.size)=1048576 - r.length - s.size:=w64 (by omega) (by omega)
  simp only [hw2]
  by_cases h2:1048576 - (r.length:Int) - s.size < 0
  · exact ⟨-1,ev_eq (f:=fun _=>some (-1)) (fun k=>by rw [if_pos h2,Option.bind_some,if_pos (by decide)]) (ev_some _),fun h=>absurd h (by decide)⟩
  simp only [if_neg h2,Option.bind_some]
  have hw3:wrap64 (1048576 - (r.length:Int) - s.size - v.length)=1048576 - r.length - s.size - v.length:=w64 (by omega) (by omega)
  simp only [hw3]
  by_cases h3:1048576 - (r.length:Int) - s.size - v.length < 0
  · exact ⟨-1,ev_eq (f:=fun _=>some (-1)) (fun k=>by rw [if_pos h3,Option.bind_some,if_pos (by decide)]) (ev_some _),fun h=>absurd h (by decide)⟩
  simp only [if_neg h3,Option.bind_some]
  obtain ⟨y,hy,h4⟩:=szSeenS_ev m (1048576 - (r.length:Int) - s.size - v.length) hm hk (by omega) (by omega)
  by_cases h5:y < 0
  · refine ⟨-1,ev_bind hy ?_,fun h=>absurd h (by decide)⟩
    simp only [if_pos h5]
    exact ev_some _
  · refine ⟨y,ev_bind hy ?_,fun _=>?_⟩
    · simp only [if_neg h5]
      exact ev_some _
    · have:=(h4 (by omega)).1
      omega
theorem in01 (x a b:Int):spec_l01In.f x a b=some (decide (a≤x∧x≤b)):=by
  unfold spec_l01In.f
  by_cases h:x ≥ a
  · rw [if_pos h];simp [h]
  · rw [if_neg h];simp [h]
def mOkB (r:List Bool) (N:Int) (s:ByteArray) (rm:Int) (v:List Int) (rt:Int) (o:Bool) (a b c:Int) (m:List S86):Bool :=
  (tok N s && ((r.length:Int) == N)) && okFront rm m.length v.length N && v.all isBit && okRet rt o v.length && decide (okMemo m) && okCounts a b c
theorem impl_MachineOk_ev (r:List Bool) (N:Int) (s:ByteArray) (rm:Int) (v:List Int) (rt:Int) (o:Bool) (a b c:Int) (m:List S86) (hs:s.size≤1099511627776) (hv:v.length≤1099511627776) (hm:∀ y∈m,y.f0.size≤maxLen) :
    Ev (fun k=>impl_MachineOk.f k r N s rm v rt o a b c m) (mOkB r N s rm v rt o a b c m):=by
  obtain ⟨x,hx⟩:=placeOfBits_any v hv
  refine ev_ge (s.size + v.length + 20) fun k hk=>?_
  unfold impl_MachineOk.f impl_rowed.f mOkB
  rw [if_pos hm,impl_TableOk_eq N s hs k (by omega),Option.bind_some,hx k (by omega)]
  cases tok N s <;> cases ((r.length:Int) == N) <;> cases v.all isBit <;> simp
theorem mem_take_key (L:List S86) (i:Nat) (hi:i≤L.length) (x:ByteArray):x∈((L.take i).map fun s=>s.f0)↔∃ j,j < i∧(rd_T86 L (j:Int)).f0=x:=by
  rw [List.mem_map]
  constructor
  · rintro ⟨y,hy,rfl⟩
    rw [List.mem_iff_getElem] at hy
    obtain ⟨j,hj,rfl⟩:=hy
    have hj':j < i:=by simp at hj;omega
    exact ⟨j,hj',by rw [rdS_nat,getD_lt L j _ (by omega)];simp⟩
  · rintro ⟨j,hj,rfl⟩
    exact ⟨rd_T86 L (j:Int),List.mem_iff_getElem.2 ⟨j,by simp;omega,by rw [rdS_nat,getD_lt L j _ (by omega)];simp⟩,rfl⟩
section
variable (r:List Bool) (N:Int) (s:ByteArray) (rm:Int) (v:List Int) (rt:Int) (o:Bool) (a b c:Int) (m:List S86)
theorem spec_mok_l2 (hl:m.length≤1099511627776) (i:Nat) (hi:i < m.length) (q:Bool) (bad:(rd_T86 m (i:Int)).f0∈((m.take i).map fun s=>s.f0)→q=false)
    (go:(rd_T86 m (i:Int)).f0 ∉ ((m.take i).map fun s=>s.f0)→Ev (fun k=>spec_MachineOk.l1 k ((i + 1:Nat):Int) r N s rm v rt o a b c m) q):Ev (fun k=>spec_MachineOk.l2 k (i:Int) 0 r N s rm v rt o a b c m) q:=by
  have h:∀ d j,j + d=i→(∀ q,q < j→(rd_T86 m (q:Int)).f0≠(rd_T86 m (i:Int)).f0)→Ev (fun k=>spec_MachineOk.l2 k (i:Int) (j:Int) r N s rm v rt o a b c m) q:=by
    intro d
    induction d with
    | zero =>
      intro j hj hq
      obtain rfl:j=i:=by omega
      refine ev_step (fun k=>?_) (go (fun hm=>?_))
      · simp only [spec_MachineOk.l2]
        rw [if_neg (by omega),w64s j (by omega)]
      · obtain ⟨q,h1,h2⟩:=(mem_take_key m j (by omega) _).1 hm
        exact hq q h1 h2
    | succ d ih =>
      intro j hj hq
      by_cases he:(rd_T86 m (j:Int)).f0=(rd_T86 m (i:Int)).f0
      · rw [bad ((mem_take_key m i (by omega) _).2 ⟨j,by omega,he⟩)]
        refine ev_step (f:=fun k=>some false) (fun k=>?_) (ev_some _)
        simp only [spec_MachineOk.l2]
        rw [if_pos (by omega),if_pos (by omega),if_pos (by omega),if_pos (by omega),if_pos (by omega),if_pos (by rw [he])]
      · refine ev_step (fun k=>?_) (ih (j + 1) (by omega) (fun q hq'=>?_))
        · simp only [spec_MachineOk.l2]
          rw [if_pos (by omega),if_pos (by omega),if_pos (by omega),if_pos (by omega),if_pos (by omega),if_neg (fun hh=>he (toList_inj.1 hh)),w64s j (by omega)]
        · rcases Nat.lt_succ_iff_lt_or_eq.1 hq' with h1|rfl
          · exact hq q h1
          · exact he
  exact h i 0 (by omega) (fun q hq=>by omega)
theorem spec_mok_l1 (hl:m.length≤1099511627776):Ev (fun k=>spec_MachineOk.l1 k 0 r N s rm v rt o a b c m) (decide (okMemo m)):=by
  have h:∀ d i,i + d=m.length→(∀ j,j < i→okSeen m j)→Ev (fun k=>spec_MachineOk.l1 k (i:Int) r N s rm v rt o a b c m) (decide (okMemo m)):=by
    intro d
    induction d with
    | zero =>
      intro i hi hall
      rw [decide_eq_true (show okMemo m from fun j hj=>hall j (by omega))]
      refine ev_step (f:=fun _=>some true) (fun k=>?_) (ev_some _)
      simp only [spec_MachineOk.l1]
      rw [if_neg (by omega)]
    | succ d ih =>
      intro i hi hall
      have hlt:i < m.length:=by omega
      by_cases c0:(rd_T86 m (i:Int)).f1=0∨(rd_T86 m (i:Int)).f1=1
      · refine ev_step (f:=fun k=>spec_MachineOk.l2 k (i:Int) 0 r N s rm v rt o a b c m) (fun k=>?_) ?_
        · simp only [spec_MachineOk.l1,in01,Option.bind_some]
          rw [if_pos (by omega),if_pos (by omega),if_pos (decide_eq_true (by omega))]
        refine spec_mok_l2 r N s rm v rt o a b c m hl i hlt _ (fun hm=>?_) (fun hm=>ih (i + 1) (by omega) (fun j hj=>?_))
        · exact decide_eq_false (fun h:okMemo m=>(h i hlt).2 hm)
        · rcases Nat.lt_succ_iff_lt_or_eq.1 hj with h1|rfl
          · exact hall j h1
          · exact ⟨c0,hm⟩
      · rw [decide_eq_false (fun h:okMemo m=>c0 (h i hlt).1)]
        refine ev_step (f:=fun _=>some false) (fun k=>?_) (ev_some _)
        simp only [spec_MachineOk.l1,in01,Option.bind_some]
        rw [if_pos (by omega),if_pos (by omega),if_neg (by rw [decide_eq_true_eq];omega)]
  exact h m.length 0 (by omega) (fun j hj=>by omega)
theorem spec_mok_l0 (hl:m.length≤1099511627776) (hv:v.length≤1099511627776):Ev (fun k=>spec_MachineOk.l0 k 0 r N s rm v rt o a b c m) (v.all isBit && decide (okMemo m)):=by
  have h:∀ d i,i + d=v.length→(∀ j,j < i→isBit (v.getD j 0)=true)→Ev (fun k=>spec_MachineOk.l0 k (i:Int) r N s rm v rt o a b c m) (v.all isBit && decide (okMemo m)):=by
    intro d
    induction d with
    | zero =>
      intro i hi hall
      rw [show v.all isBit=true from by rw [← all_getD];exact List.all_eq_true.2 fun j hj=>hall j (by simp at hj;omega),Bool.true_and]
      refine ev_step (fun k=>?_) (spec_mok_l1 r N s rm v rt o a b c m hl)
      simp only [spec_MachineOk.l0]
      rw [if_neg (by omega)]
    | succ d ih =>
      intro i hi hall
      by_cases c0:isBit (v.getD i 0)=true
      · refine ev_step (fun k=>?_) (ih (i + 1) (by omega) (fun j hj=>?_))
        · simp only [spec_MachineOk.l0,in01,Option.bind_some,rd_nat]
          unfold isBit at c0
          simp only [Bool.or_eq_true,beq_iff_eq] at c0
          rw [if_pos (by omega),if_pos (by omega),if_pos (decide_eq_true (by omega)),w64s i (by omega)]
        · rcases Nat.lt_succ_iff_lt_or_eq.1 hj with h1|rfl
          · exact hall j h1
          · exact c0
      · have hf:v.all isBit=false:=by
          rw [← all_getD]
          exact Bool.eq_false_iff.2 fun h=>c0 (List.all_eq_true.1 h i (by simp;omega))
        rw [hf,Bool.false_and]
        refine ev_step (f:=fun _=>some false) (fun k=>?_) (ev_some _)
        simp only [spec_MachineOk.l0,in01,Option.bind_some,rd_nat]
        unfold isBit at c0
        simp only [Bool.or_eq_true,beq_iff_eq] at c0
        rw [if_pos (by omega),if_pos (by omega),if_neg (by rw [decide_eq_true_eq];omega)]
  exact h v.length 0 (by omega) (fun j hj=>by omega)
theorem spec_mok_j1 (hl:m.length≤1099511627776) (hv:v.length≤1099511627776) (x:Bool):Ev (fun k=>spec_MachineOk.j1 k x r N s rm v rt o a b c m) (!x && (v.all isBit && decide (okMemo m))):=by
  cases x with
  | true =>
    refine ev_step (f:=fun _=>some false) (fun k=>?_) (ev_some _)
    simp only [spec_MachineOk.j1]
    rw [if_pos trivial]
  | false =>
    refine ev_step (fun k=>?_) (spec_mok_l0 r N s rm v rt o a b c m hl hv)
    simp only [spec_MachineOk.j1]
    rw [if_neg (by decide)]
theorem spec_mok_j0 (hl:m.length≤1099511627776) (hv:v.length≤1099511627776) (x:Bool) :
    Ev (fun k=>spec_MachineOk.j0 k x r N s rm v rt o a b c m) (!x && (!(o && (decide (rt < 0) || decide ((v.length:Int) > 0))) && okCounts a b c && (v.all isBit && decide (okMemo m)))):=by
  have hj:=spec_mok_j1 r N s rm v rt o a b c m hl hv
  cases x with
  | true =>
    refine ev_step (f:=fun _=>some false) (fun k=>?_) (ev_some _)
    simp only [spec_MachineOk.j0]
    rw [if_pos trivial]
  | false =>
    have hc:Ev (fun k=>spec_MachineOk.j1 k (!okCounts a b c) r N s rm v rt o a b c m) (okCounts a b c && (v.all isBit && decide (okMemo m))):=by
      have:=hj (!okCounts a b c)
      rwa [Bool.not_not] at this
    have hcc:∀ k,((some (decide (0≤a∧a≤1000000000))).bind fun t=>if t=true then ((some (decide (0≤b∧b≤1000000000))).bind fun t=>if t=true then ((some (decide (0≤c∧c≤1000000000))).bind fun t=>spec_MachineOk.j1 k (!t) r N s rm v rt o a b c m) else spec_MachineOk.j1 k true r N s rm v rt o a b c m) else spec_MachineOk.j1 k true r N s rm v rt o a b c m)=spec_MachineOk.j1 k (!okCounts a b c) r N s rm v rt o a b c m:=by
      intro k
      unfold okCounts
      cases decide (0≤a∧a≤1000000000) <;> cases decide (0≤b∧b≤1000000000) <;> cases decide (0≤c∧c≤1000000000) <;> rfl
    cases o with
    | false =>
      refine ev_step (f:=fun k=>spec_MachineOk.j1 k (!okCounts a b c) r N s rm v rt false a b c m) (fun k=>?_) (by simpa using hc)
      simp only [spec_MachineOk.j0,in01]
      rw [if_neg (by decide),if_neg (by decide)]
      exact hcc k
    | true =>
      by_cases h0:rt < 0
      · refine ev_step (f:=fun k=>spec_MachineOk.j1 k true r N s rm v rt true a b c m) (fun k=>?_) (by have:=hj true;simpa [h0] using this)
        simp only [spec_MachineOk.j0,in01]
        rw [if_neg (by decide),if_pos trivial,if_pos h0]
      · by_cases h1:(v.length:Int) > 0
        · refine ev_step (f:=fun k=>spec_MachineOk.j1 k true r N s rm v rt true a b c m) (fun k=>?_) (by have:=hj true;rw [decide_eq_true h1];simpa using this)
          simp only [spec_MachineOk.j0,in01]
          rw [if_neg (by decide),if_pos trivial,if_neg h0,if_pos h1]
        · refine ev_step (f:=fun k=>spec_MachineOk.j1 k (!okCounts a b c) r N s rm v rt true a b c m) (fun k=>?_) (by rw [decide_eq_false h0,decide_eq_false h1];simpa using hc)
          simp only [spec_MachineOk.j0,in01]
          rw [if_neg (by decide),if_pos trivial,if_neg h0,if_neg h1]
          exact hcc k
theorem spec_MachineOk_ev (hs:s.size≤1099511627776) (hl:m.length≤1099511627776) (hv:v.length≤1099511627776):Ev (fun k=>spec_MachineOk.f k r N s rm v rt o a b c m) (mOkB r N s rm v rt o a b c m):=by
  have hj:=spec_mok_j0 r N s rm v rt o a b c m hl hv
  have h8:Ev (fun k=>spec_l08Ok.f k r N s) (tok N s && ((r.length:Int) == N)):=by
    refine ev_ge (s.size + 20) fun k hk=>?_
    unfold spec_l08Ok.f
    rw [spec_TableOk_eq N s hs k hk,Option.bind_some]
    cases tok N s <;> rfl
  have ht:=hj true
  have hn:∀ q:Bool,q=false→Ev (fun k=>spec_MachineOk.j0 k true r N s rm v rt o a b c m) q:=fun q hq=>by rw [hq];exact ht
  unfold spec_MachineOk.f
  refine ev_bind h8 ?_
  unfold mOkB okFront okRet
  cases (tok N s && ((r.length:Int) == N)) with
  | false=>simp only [if_neg (show ¬ (false=true) by decide)];exact hn _ (by simp)
  | true =>
    simp only [if_true,in01,Option.bind_some]
    cases decide (0≤rm∧rm≤40) with
    | false=>simp only [if_neg (show ¬ (false=true) by decide)];exact hn _ (by simp)
    | true =>
      simp only [if_true]
      by_cases h1:(m.length:Int) > rm
      · simp only [if_pos h1];exact hn _ (by rw [decide_eq_true h1];simp)
      · by_cases h2:(v.length:Int) > N
        · simp only [if_neg h1,if_pos h2];exact hn _ (by rw [decide_eq_true h2];simp)
        · simp only [if_neg h1,if_neg h2]
          have:=hj (!decide (-1≤rt∧rt≤1))
          rw [decide_eq_false h1,decide_eq_false h2]
          have e:∀ p q u z w:Bool,(!!p && (!q && u && (z && w)))=(true && (true && !false && !false) && z && (p && !q) && w && u):=by decide +kernel
          rw [e] at this
          exact this
end
theorem markText_loop:∀ (d x:Nat) (s:ByteArray),x < 10 ^ d→x≤4611686018427387904→s.size + d≤100→∃ t,Ev (fun k=>laws_markText.l0 k (x:Int) s) t:=by
  intro d
  induction d with
  | zero =>
    intro x s hx _ hs
    have:x=0:=by simpa using hx
    subst this
    refine ⟨_,ev_succ (r:=(⟨#[109]⟩:ByteArray) ++ s) ?_⟩
    simp only [laws_markText.l0,if_neg (show ¬ ((0:Nat):Int) > 0 by decide),if_pos (show 1 + s.size≤9223372036854775807 by omega)]
    exact ev_some _
  | succ d ih =>
    intro x s hx hb hs
    by_cases h0:x=0
    · subst h0
      refine ⟨_,ev_succ (r:=(⟨#[109]⟩:ByteArray) ++ s) ?_⟩
      simp only [laws_markText.l0,if_neg (show ¬ ((0:Nat):Int) > 0 by decide),if_pos (show 1 + s.size≤9223372036854775807 by omega)]
      exact ev_some _
    · have hsz:(strOfNums [(wrap64 (48 + (Int.tmod (x:Int) 10))) % 256]).size=1:=by rw [strOfNums_size];rfl
      obtain ⟨t,ht⟩:=ih (x / 10) (strOfNums [(wrap64 (48 + (Int.tmod (x:Int) 10))) % 256] ++ s) (by rw [Nat.pow_succ] at hx;omega) (by omega) (by rw [ByteArray.size_append,hsz];omega)
      refine ⟨t,ev_succ ?_⟩
      simp only [laws_markText.l0,if_pos (show (x:Int) > 0 by omega),Option.bind_some,hsz,if_pos (show 1 + s.size≤9223372036854775807 by omega)]
      rw [show wrap64 (Int.tdiv (x:Int) 10)=((x / 10:Nat):Int) by rw [Int.tdiv_eq_ediv_of_nonneg (by omega),w64 (by omega) (by omega)];omega]
      exact ht
theorem markText_ev (m:Nat) (h:m≤4611686018427387904):∃ t,Ev (fun k=>laws_markText.f k (m:Int)) t:=by
  unfold laws_markText.f
  by_cases h0:m=0
  · subst h0
    exact ⟨_,by simp only [if_pos (show ((0:Nat):Int)≤0 by decide)];exact ev_some _⟩
  · simp only [if_neg (show ¬ ((m:Int)≤0) by omega)]
    exact markText_loop 30 m ⟨#[]⟩ (Nat.lt_of_le_of_lt h (by decide)) h (by show 0 + 30≤100;decide)
theorem marks_ex:∃ T:Nat→ByteArray,∀ m:Nat,m≤4611686018427387904→Ev (fun k=>laws_markText.f k (m:Int)) (T m):=by
  classical
  refine ⟨fun m=>if h:∃ t,Ev (fun k=>laws_markText.f k (m:Int)) t then Classical.choose h else ⟨#[]⟩,fun m hm=>?_⟩
  have h:=markText_ev m hm
  simp only [dif_pos h]
  exact Classical.choose_spec h
def markJ (c n:Nat):List Int:=(List.range n).map fun i=>((c + i:Nat):Int)
theorem markIntS_from (c:Nat) (l:List Int) (hc:c≤1099511627776) (hl:l.length≤1099511627776):∀ k,l.length < k→laws_markIntS.f k l (c:Int)=some (((c + l.length:Nat):Int),markJ c l.length):=by
  intro k hk
  unfold laws_markIntS.f
  have h:=rounds (fun k i=>laws_markIntS.l0 k ((markJ c l.length).take i ++ l.drop i) ((c + i:Nat):Int) (i:Int)) l.length (((c + l.length:Nat):Int),markJ c l.length) ?_ ?_ k hk
  · simpa using h
  · intro k i hi
    simp only [laws_markIntS.l0]
    rw [if_pos (by simp [markJ];omega),if_pos (by omega),w64s i (by omega),w64s (c + i) (by omega),Int.toNat_natCast,set_front (markJ c l.length) l i _ (by simp [markJ]) hi (by simp [markJ,hi])]
    rfl
  · intro k
    simp only [laws_markIntS.l0]
    rw [if_neg (by simp [markJ]),List.take_of_length_le (by simp [markJ])]
    simp
theorem heldIntS_from (c n:Nat) (hc:c≤1099511627776) (hn:n≤1099511627776):∀ k,n < k→laws_heldIntS.f k (markJ c n) (c:Int)=some ((c + n:Nat):Int):=by
  intro k hk
  unfold laws_heldIntS.f
  have h:=rounds (fun k i=>laws_heldIntS.l0 k (markJ c n) ((c + i:Nat):Int) (i:Int)) n ((c + n:Nat):Int) ?_ ?_ k hk
  · simpa using h
  · intro k i hi
    simp only [laws_heldIntS.l0]
    rw [if_pos (by simp [markJ];omega),if_pos (by omega),rd_nat,w64s i (by omega),w64s (c + i) (by omega),if_pos (by simp [markJ,hi])]
    rfl
  · intro k
    simp only [laws_heldIntS.l0]
    rw [if_neg (by simp [markJ])]
def markQ (T:Nat→ByteArray) (c n:Nat):List S86:=(List.range n).map fun i=>⟨T (c + 2 * i),((c + 2 * i + 1:Nat):Int)⟩
theorem markQ_length (T:Nat→ByteArray) (c n:Nat):(markQ T c n).length=n:=by simp [markQ]
theorem rd_markQ (T:Nat→ByteArray) (c n i:Nat) (hi:i < n):rd_T86 (markQ T c n) (i:Int)=⟨T (c + 2 * i),((c + 2 * i + 1:Nat):Int)⟩:=by
  rw [rdS_nat,getD_lt _ i _ (by rw [markQ_length];exact hi)]
  simp [markQ]
theorem markSeenS_ev {T:Nat→ByteArray} (hT:∀ m:Nat,m≤4611686018427387904→Ev (fun k=>laws_markText.f k (m:Int)) (T m)) (c:Nat) (l:List S86) (hc:c≤1099511627776) (hl:l.length≤1099511627776) :
    Ev (fun k=>laws_markSeenS.f k l (c:Int)) (((c + 2 * l.length:Nat):Int),markQ T c l.length):=by
  unfold laws_markSeenS.f
  have h:=ev_loop (fun k i=>laws_markSeenS.l0 k ((markQ T c l.length).take i ++ l.drop i) ((c + 2 * i:Nat):Int) (i:Int)) l.length (((c + 2 * l.length:Nat):Int),markQ T c l.length) ?_ ?_ 0 (by omega)
  · simpa using h
  · intro i hi e
    have hlen:((markQ T c l.length).take i ++ l.drop i).length=l.length:=by simp [markQ];omega
    refine ev_succ ?_
    simp only [laws_markSeenS.l0,if_pos (show (i:Int) < (((markQ T c l.length).take i ++ l.drop i).length:Int) by rw [hlen];omega)]
    refine ev_bind (hT (c + 2 * i) (by omega)) ?_
    simp only [if_pos (show 0≤(i:Int) by omega),Option.bind_some,Int.toNat_natCast]
    have hr:(rd_T86 ((((markQ T c l.length).take i ++ l.drop i)).set i ⟨T (c + 2 * i),(rd_T86 ((markQ T c l.length).take i ++ l.drop i) (i:Int)).f1⟩) (i:Int)).f0=T (c + 2 * i):=by
      rw [rdS_nat,getD_lt _ i _ (by rw [List.length_set,hlen];exact hi)]
      simp
    rw [hr,List.set_set,w64s i (by omega),w64s (c + 2 * i) (by omega),w64s (c + 2 * i + 1) (by omega),set_front (markQ T c l.length) l i _ (by rw [markQ_length]) hi (by simp [markQ,hi])]
    exact e
  · refine ev_succ ?_
    have e0:(markQ T c l.length).take l.length ++ l.drop l.length=markQ T c l.length:=by rw [List.take_of_length_le (by simp [markQ])];simp
    simp only [e0,laws_markSeenS.l0,markQ_length,if_neg (show ¬ (l.length:Int) < (l.length:Int) by omega)]
    exact ev_some _
theorem heldSeenS_ev {T:Nat→ByteArray} (hT:∀ m:Nat,m≤4611686018427387904→Ev (fun k=>laws_markText.f k (m:Int)) (T m)) (c n:Nat) (hc:c≤1099511627776) (hn:n≤1099511627776) :
    Ev (fun k=>laws_heldSeenS.f k (markQ T c n) (c:Int)) ((c + 2 * n:Nat):Int):=by
  unfold laws_heldSeenS.f
  have h:=ev_loop (fun k i=>laws_heldSeenS.l0 k (markQ T c n) ((c + 2 * i:Nat):Int) (i:Int)) n ((c + 2 * n:Nat):Int) ?_ ?_ 0 (by omega)
  · simpa using h
  · intro i hi e
    refine ev_succ ?_
    simp only [laws_heldSeenS.l0,markQ_length,if_pos (show (i:Int) < (n:Int) by omega),if_pos (show 0≤(i:Int) by omega)]
    refine ev_bind (hT (c + 2 * i) (by omega)) ?_
    simp only [rd_markQ T c n i hi,if_true,w64s (c + 2 * i) (show c + 2 * i < 4611686018427387904 by omega),w64s (c + 2 * i + 1) (show c + 2 * i + 1 < 4611686018427387904 by omega),w64s i (show i < 4611686018427387904 by omega)]
    exact e
  · refine ev_succ ?_
    simp only [laws_heldSeenS.l0,markQ_length,if_neg (show ¬ (n:Int) < (n:Int) by omega)]
    exact ev_some _
theorem markMachine_ev {T:Nat→ByteArray} (hT:∀ m:Nat,m≤4611686018427387904→Ev (fun k=>laws_markText.f k (m:Int)) (T m)) (r:List Bool) (N:Int) (s:ByteArray) (rm:Int) (v:List Int) (rt:Int) (o:Bool) (a b c:Int) (m:List S86) (hr:r.length≤1048576) (hv:v.length≤1048576) (hm:m.length≤1048576) :
    Ev (fun k=>laws_markMachine.f k r N s rm v rt o a b c m 1) (((1 + r.length + v.length + 2 * m.length:Nat):Int),markB r.length,markJ (1 + r.length) v.length,markQ T (1 + r.length + v.length) m.length):=by
  unfold laws_markMachine.f
  refine ev_bind (ev_ge _ (markBoolS_eq r (by omega))) (ev_bind (ev_ge _ (markIntS_from (1 + r.length) v (by omega) (by omega))) (ev_bind (markSeenS_ev hT (1 + r.length + v.length) m (by omega) (by omega)) (ev_some _)))
theorem heldMachine_ev {T:Nat→ByteArray} (hT:∀ m:Nat,m≤4611686018427387904→Ev (fun k=>laws_markText.f k (m:Int)) (T m)) (nr nv nm:Nat) (N:Int) (s:ByteArray) (rm:Int) (rt:Int) (o:Bool) (a b c:Int) (hr:nr≤1048576) (hv:nv≤1048576) (hm:nm≤1048576) :
    Ev (fun k=>laws_heldMachine.f k (markB nr) N s rm (markJ (1 + nr) nv) rt o a b c (markQ T (1 + nr + nv) nm) 1) ((1 + nr + nv + 2 * nm:Nat):Int):=by
  unfold laws_heldMachine.f
  refine ev_bind (ev_ge _ (heldBoolS_eq nr (by omega))) ?_
  simp only [if_neg (show ¬ ((1 + nr:Nat):Int) < 0 by omega)]
  refine ev_bind (ev_ge _ (heldIntS_from (1 + nr) nv (by omega) (by omega))) ?_
  simp only [if_neg (show ¬ ((1 + nr + nv:Nat):Int) < 0 by omega)]
  refine ev_bind (heldSeenS_ev hT (1 + nr + nv) nm (by omega) (by omega)) ?_
  simp only [if_neg (show ¬ ((1 + nr + nv + 2 * nm:Nat):Int) < 0 by omega)]
  exact ev_some _
def flags (s:ByteArray):List Bool:=s.data.toList.map fun c=>c == 49
theorem flags_ones (l:List Bool):flags (ones l)=l:=by
  unfold flags
  simp only [ones,List.map_map]
  exact (List.map_congr_left (fun b _=>by cases b <;> rfl)).trans (List.map_id l)
theorem range_getD (l:List Bool) (f:Bool→Bool):(List.range l.length).map (fun i=>f (l.getD i false))=l.map f:=by
  apply List.ext_getElem
  · simp
  · intro i h1 h2
    simp only [List.getElem_map,List.getElem_range]
    rw [getD_lt l i false (by simpa using h1)]
theorem ones_data (l:List Bool):(ones l).data.toList=l.map fun b=>if b then (49:UInt8) else 48:=by simp [ones]
theorem contains1 (l:List Bool):(ones l).data.toList.contains 49=l.contains true:=by
  rw [ones_data]
  induction l with
  | nil=>rfl
  | cons b l ih =>
    rw [List.map_cons,List.contains_cons,List.contains_cons,ih]
    congr 1
    cases b <;> rfl
theorem contains0 (l:List Bool):(ones l).data.toList.contains 48=l.contains false:=by
  rw [ones_data]
  induction l with
  | nil=>rfl
  | cons b l ih =>
    rw [List.map_cons,List.contains_cons,List.contains_cons,ih]
    congr 1
    cases b <;> rfl
def knownT (N:Int) (s:ByteArray):Int:=if tok N s then (if (flags s).contains true then (if (flags s).contains false then -1 else 1) else 0) else -1
theorem all_cont (t:List Bool) (b:Bool):(t.all fun x=>x == b) = !t.contains (!b):=by
  induction t with
  | nil=>rfl
  | cons x t ih =>
    rw [List.all_cons,ih,List.contains_cons]
    cases x <;> cases b <;> simp
theorem range_all_getD (t:List Bool) (b:Bool):((List.range t.length).all fun i=>t.getD i false == b)=t.all fun x=>x == b:=by
  have h:=congrArg (fun m:List Bool=>m.all id) (range_getD t (fun x=>x == b))
  simpa [List.all_map,Function.comp_def] using h
theorem impl_Table_known_eq (N:Int) (l:List Bool):impl_Table_known.f N (ones l)=some (if l.contains true then (if l.contains false then -1 else 1) else 0):=by
  unfold impl_Table_known.f
  rw [show strings_Contains.f (ones l) ⟨#[49]⟩=some ((ones l).data.toList.contains 49) from rfl,show strings_Contains.f (ones l) ⟨#[48]⟩=some ((ones l).data.toList.contains 48) from rfl,contains1,contains0]
  have hb:∀ b,impl_bit.f b=some (if b then 1 else 0):=fun b=>by cases b <;> rfl
  simp only [Option.bind_some,hb]
  cases l.contains true <;> cases l.contains false <;> rfl
theorem spec_Known_eq (N:Int) (s:ByteArray) (hs:s.size≤1099511627776):∀ k,s.size + 20 < k→spec_Known.f k N s=some (knownT N s):=by
  intro k hk
  unfold spec_Known.f knownT
  rw [spec_TableOk_eq N s hs k hk,Option.bind_some]
  cases ht:tok N s with
  | false=>rfl
  | true =>
    obtain ⟨n,l,rfl,hn,hl,rfl⟩:=tok_form ht
    have hp:=pow12 hn
    have hpos:0 < 2 ^ n:=Nat.two_pow_pos n
    rw [if_pos rfl,if_pos rfl,flags_ones]
    cases l with
    | nil=>simp at hl;omega
    | cons b t =>
      simp only [List.length_cons] at hl
      have h:=rounds_all (fun k i=>spec_Known.l0 k ((i + 1:Nat):Int) (n:Int) (ones (b :: t))) t.length (fun i=>t.getD i false == b) (if b then 1 else 0) (-1) ?_ ?_ ?_ k (by rw [ones_size] at hk;simp at hk;omega)
      · refine h.trans ?_
        rw [range_all_getD,all_cont]
        cases b <;> cases h1:t.contains true <;> cases h2:t.contains false <;> simp_all
      all_goals simp only [spec_Known.l0]
      · intro k i hi hpi
        rw [if_pos (by rw [ones_size,List.length_cons];omega),if_pos (by omega),if_pos (by rw [ones_size,List.length_cons];omega),bt_ones _ (i + 1) (by simp;omega),show (0:Int)=((0:Nat):Int) from rfl,bt_ones _ 0 (by simp),if_pos (by simpa using congrArg sgn (beq_iff_eq.1 hpi)),w64s (i + 1) (by omega)]
      · intro k i hi hpi
        rw [if_pos (by rw [ones_size,List.length_cons];omega),if_pos (by omega),if_pos (by rw [ones_size,List.length_cons];omega),bt_ones _ (i + 1) (by simp;omega),show (0:Int)=((0:Nat):Int) from rfl,bt_ones _ 0 (by simp),if_neg ?_]
        simp only [List.getD_cons_succ,List.getD_cons_zero]
        intro e
        have hx:∀ x y:Bool,sgn x=sgn y→x=y:=by decide
        rw [hx _ _ e] at hpi
        simp at hpi
      · intro k
        rw [if_neg (by rw [ones_size,List.length_cons];omega),if_pos (by rw [ones_size,List.length_cons];omega),show (0:Int)=((0:Nat):Int) from rfl,bt_ones _ 0 (by simp),List.getD_cons_zero]
        cases b <;> decide +kernel
theorem ones_extract (l:List Bool) (a b:Nat):(ones l).extract a b=ones ((l.take b).drop a):=by
  apply data_inj
  rw [ByteArray.data_extract]
  simp only [ones,Array.toList_extract,List.extract_eq_take_drop,List.map_drop,List.map_take]
  rw [List.drop_take]
def halfL (l:List Bool) (h:Bool):List Bool:=if h then l.drop (l.length / 2) else l.take (l.length / 2)
def halfT (N:Int) (s:ByteArray) (h:Int):Int × ByteArray × Bool:=if tok N s && (N != 0) && (h == 0 || h == 1) then (N - 1,ones (halfL (flags s) (h == 1)),true) else (0,⟨#[]⟩,false)
theorem spec_Half_eq (N:Int) (s:ByteArray) (h:Int) (hs:s.size≤1099511627776):∀ k,s.size + 20 < k→spec_Half.f k N s h=some (halfT N s h):=by
  intro k hk
  unfold spec_Half.f halfT
  rw [spec_TableOk_eq N s hs k hk,Option.bind_some]
  cases ht:tok N s with
  | false=>rfl
  | true =>
    obtain ⟨n,l,rfl,hn,hl,rfl⟩:=tok_form ht
    have hp:=pow12 hn
    rw [if_pos rfl]
    by_cases h0:(n:Int)=0
    · rw [if_pos h0,h0]
      rfl
    · have e0:((n:Int) != 0)=true:=bne_iff_ne.2 h0
      rw [if_neg h0,e0]
      unfold spec_l01In.f
      by_cases h1:h=0∨h=1
      · obtain ⟨m,rfl⟩:∃ m,n=m + 1:=⟨n - 1,by omega⟩
        have hl2:l.length=2 * 2 ^ m:=by rw [hl,Nat.pow_succ,Nat.mul_comm]
        have hhalf:l.length / 2=2 ^ m:=by omega
        rw [if_pos (by omega),Option.bind_some,if_pos (by simp;omega),ones_size,show ((l.length:Nat):Int) / 2=((l.length / 2:Nat):Int) by omega,w64 (n:=((l.length / 2:Nat):Int)) (by omega) (by omega),w64 (n:=((m + 1:Nat):Int) - 1) (by omega) (by omega)]
        rcases h1 with h1|h1
        · subst h1
          rw [Int.zero_mul,w64 (n:=0) (by omega) (by omega),Int.zero_add,w64 (n:=((l.length / 2:Nat):Int)) (by omega) (by omega),if_pos (by omega),if_pos (by omega),if_pos (by omega),Int.toNat_natCast,show (0:Int).toNat=0 from rfl,ones_extract,flags_ones]
          rfl
        · subst h1
          rw [Int.one_mul,w64 (n:=((l.length / 2:Nat):Int)) (by omega) (by omega),w64 (n:=((l.length / 2:Nat):Int) + ((l.length / 2:Nat):Int)) (by omega) (by omega),if_pos (by omega),if_pos (by omega),if_pos (by omega),Int.toNat_natCast,show (((l.length / 2:Nat):Int) + ((l.length / 2:Nat):Int)).toNat=l.length by omega,ones_extract,flags_ones,List.take_length]
          rfl
      · have e:(h == 0 || h == 1)=false:=by simp;omega
        rw [e]
        by_cases h2:h ≥ 0
        · rw [if_pos h2,Option.bind_some,if_neg (by simp;omega)]
          rfl
        · rw [if_neg h2,Option.bind_some,if_neg (by decide)]
          rfl
def seg (l:List Bool) (a c:Nat):List Bool:=(l.drop a).take c
theorem seg_len {l:List Bool} {a c:Nat} (h:a + c≤l.length):(seg l a c).length=c:=by unfold seg;rw [List.length_take,List.length_drop];omega
theorem seg_half {l:List Bool} {a m:Nat} (h:a + 2 ^ (m + 1)≤l.length) (b:Bool):halfL (seg l a (2 ^ (m + 1))) b=seg l (a + if b then 2 ^ m else 0) (2 ^ m):=by
  have hp:2 ^ (m + 1)=2 * 2 ^ m:=by rw [Nat.pow_succ];omega
  unfold halfL
  rw [seg_len h,hp,Nat.mul_div_cancel_left _ (by decide)]
  unfold seg
  cases b with
  | true =>
    simp only [if_true]
    rw [List.drop_take,List.drop_drop]
    congr 1
    omega
  | false =>
    simp only [Bool.false_eq_true,if_false,Nat.add_zero]
    rw [List.take_take,Nat.min_eq_left (by omega)]
def plN (v:List Int):Nat:=(plc v).toNat
theorem plN_bd {v:List Int} (h:v.all isBit=true) (i:Nat) (hi:i≤v.length):plc (v.take i)=(plN (v.take i):Int)∧plN (v.take i) < 2 ^ i:=by
  have hb:=plc_bd v i hi (fun j hj=>by
    have:=List.all_eq_true.1 h (v.getD j 0) (by rw [getD_lt v j 0 (by omega)];exact List.getElem_mem _)
    exact this)
  have hc:((2 ^ i:Nat):Int)=(2:Int) ^ i:=by norm_cast
  unfold plN
  constructor
  · omega
  · omega
theorem plN_succ {v:List Int} (h:v.all isBit=true) (i:Nat) (hi:i < v.length):plN (v.take (i + 1))=2 * plN (v.take i) + (if v.getD i 0=1 then 1 else 0):=by
  have h1:=(plN_bd h i (by omega)).1
  have hb:isBit (v.getD i 0)=true:=List.all_eq_true.1 h (v.getD i 0) (by rw [getD_lt v i 0 hi];exact List.getElem_mem _)
  unfold isBit at hb
  simp only [Bool.or_eq_true,beq_iff_eq] at hb
  unfold plN at h1 ⊢
  rw [take_succ_getD v i 0 hi,plc_snoc,h1]
  rcases hb with hb|hb
  · rw [hb,if_neg (by decide)];omega
  · rw [hb,if_pos rfl];omega
theorem spec_left_ev (r:List Bool) {n:Nat} {l:List Bool} (hn:n≤12) (hl:l.length=2 ^ n) (rm:Int) (v:List Int) (hv:v.length≤n) (hb:v.all isBit=true) (rt:Int) (o:Bool) (a b c:Int) (m:List S86) :
    Ev (fun k=>spec_l09Left.f k r (n:Int) (ones l) rm v rt o a b c m) (((n - v.length:Nat):Int),ones (seg l (plN v * 2 ^ (n - v.length)) (2 ^ (n - v.length)))):=by
  have hp:=pow12 hn
  have hbd:∀ i,i≤v.length→plN (v.take i) * 2 ^ (n - i) + 2 ^ (n - i)≤l.length:=by
    intro i hi
    have h1:=(plN_bd hb i hi).2
    have h2:2 ^ n=2 ^ i * 2 ^ (n - i):=by rw [← Nat.pow_add];congr 1;omega
    rw [hl,h2,← Nat.succ_mul]
    exact Nat.mul_le_mul_right _ h1
  have hs:∀ i,i≤v.length→Ev (fun k=>spec_l09Left.l0 k (i:Int) r (n:Int) (ones l) rm v rt o a b c m ((n - i:Nat):Int) (ones (seg l (plN (v.take i) * 2 ^ (n - i)) (2 ^ (n - i))))) (((n - v.length:Nat):Int),ones (seg l (plN v * 2 ^ (n - v.length)) (2 ^ (n - v.length)))):=by
    refine ev_loop (fun k i=>spec_l09Left.l0 k (i:Int) r (n:Int) (ones l) rm v rt o a b c m ((n - i:Nat):Int) (ones (seg l (plN (v.take i) * 2 ^ (n - i)) (2 ^ (n - i))))) v.length _ (fun i hi e=>?_) ?_
    · have hsl:=seg_len (hbd i (by omega))
      have hbi:isBit (v.getD i 0)=true:=List.all_eq_true.1 hb (v.getD i 0) (by rw [getD_lt v i 0 hi];exact List.getElem_mem _)
      unfold isBit at hbi
      simp only [Bool.or_eq_true,beq_iff_eq] at hbi
      refine ev_step (f:=fun k=>(spec_Half.f k ((n - i:Nat):Int) (ones (seg l (plN (v.take i) * 2 ^ (n - i)) (2 ^ (n - i)))) (v.getD i 0)).bind fun bt548=>(spec_l09Left.l0 k ((i + 1:Nat):Int) r (n:Int) (ones l) rm v rt o a b c m bt548.1 bt548.2.1)) (fun k=>?_) ?_
      · simp only [spec_l09Left.l0,rd_nat]
        rw [if_pos (by omega),if_pos (by omega),w64s i (by omega)]
      have hsz:(ones (seg l (plN (v.take i) * 2 ^ (n - i)) (2 ^ (n - i)))).size≤1099511627776:=by
        rw [ones_size,hsl]
        have:=Nat.pow_le_pow_right (n:=2) (by decide) (show n - i≤12 by omega)
        omega
      refine ev_bind (ev_ge _ (spec_Half_eq ((n - i:Nat):Int) _ (v.getD i 0) hsz)) ?_
      obtain ⟨d,hd⟩:∃ d,n - i=d + 1:=⟨n - i - 1,by omega⟩
      have hd':n - (i + 1)=d:=by omega
      have hh:halfT ((n - i:Nat):Int) (ones (seg l (plN (v.take i) * 2 ^ (n - i)) (2 ^ (n - i)))) (v.getD i 0)=((d:Int),ones (seg l (plN (v.take (i + 1)) * 2 ^ d) (2 ^ d)),true):=by
        unfold halfT
        rw [tok_ones (by omega) hsl,flags_ones,if_pos (by
          simp only [Bool.true_and,Bool.and_eq_true,Bool.or_eq_true,beq_iff_eq,bne_iff_ne,ne_eq]
          exact ⟨by omega,hbi⟩)]
        have hbd':=hbd i (by omega)
        rw [hd] at hbd' ⊢
        rw [seg_half hbd',plN_succ hb i hi]
        rw [show ((d + 1:Nat):Int) - 1=(d:Int) from by omega]
        congr 4
        rw [Nat.pow_succ]
        rcases hbi with h0|h0
        · rw [h0];simp;rw [Nat.mul_comm (2 ^ d) 2,← Nat.mul_assoc,Nat.mul_comm _ 2]
        · rw [h0];simp;rw [Nat.add_mul,Nat.one_mul,Nat.mul_comm (2 ^ d) 2,← Nat.mul_assoc,Nat.mul_comm _ 2]
      rw [hh]
      simp only [hd'] at e
      exact e
    · refine ev_step (f:=fun _=>some (((n - v.length:Nat):Int),ones (seg l (plN v * 2 ^ (n - v.length)) (2 ^ (n - v.length))))) (fun k=>?_) (ev_some _)
      simp only [spec_l09Left.l0]
      rw [if_neg (by omega),List.take_length]
  have:=hs 0 (by omega)
  refine ev_eq (fun k=>?_) this
  unfold spec_l09Left.f
  have h0:plN (v.take 0)=0:=rfl
  rw [h0,Nat.zero_mul,Nat.sub_zero]
  unfold seg
  rw [List.drop_zero,List.take_of_length_le (by omega)]
  rfl
theorem impl_left_ev {n:Nat} {l:List Bool} (hn:n≤12) (hl:l.length=2 ^ n) (v:List Int) (hv:v.length≤n) (hb:v.all isBit=true) :
    Ev (fun k=>impl_leftOf.f k (n:Int) (ones l) v) (((n - v.length:Nat):Int),ones (seg l (plN v * 2 ^ (n - v.length)) (2 ^ (n - v.length)))):=by
  have hp:=pow12 hn
  obtain ⟨h1,h2⟩:=plN_bd hb v.length (Nat.le_refl _)
  rw [List.take_length] at h1 h2
  have h3:2 ^ n=2 ^ v.length * 2 ^ (n - v.length):=by rw [← Nat.pow_add];congr 1;omega
  have h4:(plN v + 1) * 2 ^ (n - v.length)≤2 ^ n:=by rw [h3];exact Nat.mul_le_mul_right _ h2
  have h5:plN v * 2 ^ (n - v.length)≤(plN v + 1) * 2 ^ (n - v.length):=Nat.mul_le_mul_right _ (by omega)
  have h6:plN v≤4096:=by have:=Nat.pow_le_pow_right (n:=2) (by decide) (show v.length≤12 by omega);omega
  unfold impl_leftOf.f
  refine ev_bind (ev_ge v.length (placeOfBits_eq v (by omega))) ?_
  rw [if_pos hb,h1,show wrap64 ((n:Int) - (v.length:Int))=((n - v.length:Nat):Int) from by rw [w64 (by omega) (by omega)];omega,u64_of (by omega) (by omega),shl_eq _ (by omega),show (2:Int) ^ (n - v.length)=((2 ^ (n - v.length):Nat):Int) from by norm_cast]
  have e1:wrap64 ((plN v:Int) * ((2 ^ (n - v.length):Nat):Int))=((plN v * 2 ^ (n - v.length):Nat):Int):=by
    rw [← Int.natCast_mul]
    generalize plN v * 2 ^ (n - v.length)=q at *
    exact w64 (by omega) (by omega)
  have e2:wrap64 (wrap64 ((plN v:Int) + 1) * ((2 ^ (n - v.length):Nat):Int))=(((plN v + 1) * 2 ^ (n - v.length):Nat):Int):=by
    rw [w64s _ (by omega),← Int.natCast_mul]
    generalize (plN v + 1) * 2 ^ (n - v.length)=q at *
    exact w64 (by omega) (by omega)
  simp only [e1,e2,ones_size,hl,Int.toNat_natCast,if_pos (Int.natCast_nonneg _),if_pos (Int.ofNat_le.2 h5),if_pos (Int.ofNat_le.2 h4)]
  rw [ones_extract,show (l.take ((plN v + 1) * 2 ^ (n - v.length))).drop (plN v * 2 ^ (n - v.length))=seg l (plN v * 2 ^ (n - v.length)) (2 ^ (n - v.length)) from by
    unfold seg
    rw [List.drop_take]
    congr 1
    rw [Nat.succ_mul]
    exact Nat.add_sub_cancel_left _ _]
  exact ev_some _
def digs (n:Nat):List UInt8:=if n < 10 then [UInt8.ofNat (48 + n)] else digs (n / 10) ++ [UInt8.ofNat (48 + n % 10)]
termination_by n
decreasing_by omega
theorem digs_small {n:Nat} (h:n < 10):digs n=[UInt8.ofNat (48 + n)]:=by rw [digs,if_pos h]
theorem digs_big {n:Nat} (h:¬ n < 10):digs n=digs (n / 10) ++ [UInt8.ofNat (48 + n % 10)]:=by rw [digs,if_neg h]
theorem digs_len (d:Nat):∀ n,n < 10 ^ d→(digs n).length≤max 1 d:=by
  induction d with
  | zero=>intro n hn;rw [digs_small (by omega)];simp
  | succ d ih =>
    intro n hn
    by_cases h:n < 10
    · rw [digs_small h];simp <;> omega
    · rw [digs_big h]
      have:=ih (n / 10) (by rw [Nat.pow_succ] at hn;omega)
      simp
      by_cases hd:d=0
      · subst hd;omega
      · omega
def byts (l:List UInt8):ByteArray:=⟨l.toArray⟩
theorem byts_append (a b:List UInt8):byts a ++ byts b=byts (a ++ b):=by
  apply data_inj
  rw [ByteArray.data_append]
  simp [byts]
theorem byts_size (l:List UInt8):(byts l).size=l.length:=by
  show l.toArray.size=_
  simp
theorem digit_extract (d:Nat) (hd:d < 10):(⟨#[48,49,50,51,52,53,54,55,56,57]⟩:ByteArray).extract d (d + 1)=byts [UInt8.ofNat (48 + d)]:=by
  apply data_inj
  rw [ByteArray.data_extract]
  rcases (show d=0∨d=1∨d=2∨d=3∨d=4∨d=5∨d=6∨d=7∨d=8∨d=9 by omega) with h|h|h|h|h|h|h|h|h|h <;> subst h <;> decide
theorem l03Dec_step (k:Nat) (x0:Int) (s:List UInt8) (x:Nat) (h0:0 < x) (h1:x≤9223372036854775807) (hs:s.length≤100):spec_l03Dec.l0 (k + 1) x0 (byts s) (x:Int)=spec_l03Dec.l0 k x0 (byts (UInt8.ofNat (48 + x % 10) :: s)) ((x / 10:Nat):Int):=by
  have hm:Int.tmod (x:Int) 10=((x % 10:Nat):Int):=by rw [Int.tmod_eq_emod_of_nonneg (by omega)];omega
  have hd:Int.tdiv (x:Int) 10=((x / 10:Nat):Int):=by rw [Int.tdiv_eq_ediv_of_nonneg (by omega)];omega
  simp only [spec_l03Dec.l0]
  rw [hm,hd,if_neg (by omega),if_neg (by omega),if_pos (by omega),w64s (x % 10) (by omega),if_pos (by omega),if_pos (by omega),Int.toNat_natCast,Int.toNat_natCast,digit_extract (x % 10) (by omega),if_pos (by simp only [byts_size];simp;omega),w64 (by omega) (by omega),byts_append]
  rfl
theorem l03Dec_stop (k:Nat) (x0:Int) (s:ByteArray) (h:0≤x0):spec_l03Dec.l0 (k + 1) x0 s 0=some s:=by
  simp only [spec_l03Dec.l0]
  rw [if_pos trivial,if_neg (by omega)]
theorem l03Dec_loop (x0:Int) (hx:0≤x0) (d:Nat):∀ (x:Nat) (s:List UInt8) (k:Nat),0 < x→x < 10 ^ d→x≤9223372036854775807→s.length + d≤60→d < k→spec_l03Dec.l0 k x0 (byts s) (x:Int)=some (byts (digs x ++ s)):=by
  induction d with
  | zero=>intro x s k h0 h1;omega
  | succ d ih =>
    intro x s k h0 h1 h2 h3 hk
    obtain ⟨k,rfl⟩:∃ m,k=m + 1:=⟨k - 1,by omega⟩
    rw [l03Dec_step k x0 s x h0 h2 (by omega)]
    by_cases h:x < 10
    · obtain ⟨k,rfl⟩:∃ m,k=m + 1:=⟨k - 1,by omega⟩
      rw [show x / 10=0 by omega,show ((0:Nat):Int)=0 from rfl,l03Dec_stop _ _ _ hx,digs_small h,Nat.mod_eq_of_lt h]
      rfl
    · rw [ih (x / 10) _ k (by omega) (by rw [Nat.pow_succ] at h1;omega) (by omega) (by simp;omega) (by omega),digs_big h]
      simp
theorem spec_l03Dec_eq (n:Nat) (hn:n≤9223372036854775807):∀ k,20≤k→spec_l03Dec.f k (n:Int)=some (byts (digs n)):=by
  intro k hk
  unfold spec_l03Dec.f
  by_cases h0:n=0
  · subst h0
    rw [if_pos (show ((0:Nat):Int)=0 from rfl),digs_small (by omega)]
    rfl
  · rw [if_neg (by omega)]
    have h:=l03Dec_loop (n:Int) (by omega) 19 n [] k (by omega) (by omega) (by omega) (by simp) (by omega)
    simpa [byts] using h
theorem digits_step (k:Nat) (s:List UInt8) (x:Nat) (h1:x≤18446744073709551615) (hs:s.length≤100) (h0:s=[]∨0 < x):impl_digits.l0 (k + 1) (x:Int) (byts s)=impl_digits.l0 k ((x / 10:Nat):Int) (byts (UInt8.ofNat (48 + x % 10) :: s)):=by
  have hm:Int.tmod (x:Int) 10=((x % 10:Nat):Int):=by rw [Int.tmod_eq_emod_of_nonneg (by omega)];omega
  have hd:Int.tdiv (x:Int) 10=((x / 10:Nat):Int):=by rw [Int.tdiv_eq_ediv_of_nonneg (by omega)];omega
  have he:(byts s).toList=s:=by rw [toList_data];simp [byts]
  have hc:strOfNums [(IntKind.u64.wrap (48 + Int.tmod (x:Int) 10)) % 256]=byts [UInt8.ofNat (48 + x % 10)]:=by
    rw [hm,u64_of (by omega) (by omega),show ((48:Int) + ((x % 10:Nat):Int)) % 256=((48 + x % 10:Nat):Int) by omega]
    rfl
  simp only [impl_digits.l0,he,Option.bind_some,hc,byts_size,hd]
  rw [u64_of (a:=((x / 10:Nat):Int)) (by omega) (by omega),byts_append]
  by_cases hs0:s=[]
  · rw [if_pos hs0,if_pos (by rw [List.length_singleton];omega)];rfl
  · have hx:=h0.resolve_left hs0
    rw [if_neg hs0,if_pos (by omega),if_pos (by rw [List.length_singleton];omega)];rfl
theorem digits_stop (k:Nat) (s:List UInt8) (hs:s≠[]):impl_digits.l0 (k + 1) 0 (byts s)=some (byts s):=by
  have he:(byts s).toList=s:=by rw [toList_data];simp [byts]
  simp only [impl_digits.l0,he]
  rw [if_neg hs,if_neg (by decide)]
theorem digits_loop (d:Nat):∀ (x:Nat) (s:List UInt8) (k:Nat),(s=[]∨0 < x)→x < 10 ^ (d + 1)→x≤18446744073709551615→s.length + d≤60→d + 1 < k→impl_digits.l0 k (x:Int) (byts s)=some (byts (digs x ++ s)):=by
  induction d with
  | zero =>
    intro x s k h0 h1 h2 h3 hk
    obtain ⟨k,rfl⟩:∃ m,k=m + 2:=⟨k - 2,by omega⟩
    rw [digits_step (k + 1) s x h2 (by omega) h0,show x / 10=0 by omega,show ((0:Nat):Int)=0 from rfl,digits_stop _ _ (by simp),digs_small (by omega),Nat.mod_eq_of_lt (by omega)]
    rfl
  | succ d ih =>
    intro x s k h0 h1 h2 h3 hk
    obtain ⟨k,rfl⟩:∃ m,k=m + 1:=⟨k - 1,by omega⟩
    rw [digits_step k s x h2 (by omega) h0]
    by_cases h:x < 10
    · obtain ⟨k,rfl⟩:∃ m,k=m + 1:=⟨k - 1,by omega⟩
      rw [show x / 10=0 by omega,show ((0:Nat):Int)=0 from rfl,digits_stop _ _ (by simp),digs_small h,Nat.mod_eq_of_lt h]
      rfl
    · rw [ih (x / 10) _ k (.inr (by omega)) (by rw [Nat.pow_succ] at h1;omega) (by omega) (by simp;omega) (by omega),digs_big h]
      simp
theorem impl_digits_eq (n:Nat) (hn:n≤18446744073709551615):∀ k,22≤k→impl_digits.f k (n:Int)=some (byts (digs n)):=by
  intro k hk
  unfold impl_digits.f
  have h:=digits_loop 19 n [] k (.inl rfl) (by omega) hn (by simp) (by omega)
  simpa [byts] using h
def decs (a:Int):List UInt8:=if a < 0 then 45 :: digs (-a).toNat else digs a.toNat
theorem impl_decimal_eq (a:Int) (h0 : -9223372036854775808≤a) (h1:a≤9223372036854775807):∀ k,22≤k→impl_decimal.f k a=some (byts (decs a)):=by
  intro k hk
  unfold impl_decimal.f decs
  by_cases h:a < 0
  · rw [if_pos h,if_pos h,w64 (n:=a + 1) (by omega) (by omega),w64 (n := -(a + 1)) (by omega) (by omega),u64_of (a := -(a + 1)) (by omega) (by omega),u64_of (a := -(a + 1) + 1) (by omega) (by omega),show -(a + 1) + 1=(((-a).toNat:Nat):Int) by omega,impl_digits_eq _ (by omega) k hk,Option.bind_some]
    have:=digs_len 20 (-a).toNat (by omega)
    rw [if_pos (by rw [byts_size];omega)]
    exact congrArg some (byts_append [45] _)
  · rw [if_neg h,if_neg h,u64_of (by omega) (by omega),show a=((a.toNat:Nat):Int) by omega,impl_digits_eq _ (by omega) k hk,Option.bind_some]
    rfl
theorem impl_decimal_nat (n:Nat) (hn:n≤9223372036854775807):∀ k,22≤k→impl_decimal.f k (n:Int)=some (byts (digs n)):=by
  intro k hk
  rw [impl_decimal_eq (n:Int) (by omega) (by omega) k hk,decs,if_neg (by omega),Int.toNat_natCast]
def keyOf (N:Int) (s:ByteArray):ByteArray:=if tok N s then byts (digs N.toNat) ++ ⟨#[58]⟩ ++ s else ⟨#[]⟩
theorem digs12 {n:Nat} (h:n≤12):(digs n).length≤2:=by
  have:=digs_len 2 n (by omega)
  omega
theorem spec_TableKey_eq (N:Int) (s:ByteArray) (hs:s.size≤1099511627776):∀ k,s.size + 30 < k→spec_TableKey.f k N s=some (keyOf N s):=by
  intro k hk
  unfold spec_TableKey.f keyOf
  rw [spec_TableOk_eq N s hs k (by omega),Option.bind_some]
  cases ht:tok N s with
  | false=>rfl
  | true =>
    obtain ⟨n,l,rfl,hn,hl,rfl⟩:=tok_form ht
    have:=digs12 hn
    rw [if_pos rfl,spec_l03Dec_eq n (by omega) k (by omega),Option.bind_some,if_pos (by rw [byts_size];omega),if_pos (by rw [byts_size];omega)]
    rfl
def knL (l:List Bool):Int:=if l.contains true then (if l.contains false then -1 else 1) else 0
theorem knL_bd (l:List Bool) : -1≤knL l∧knL l≤1:=by
  unfold knL
  split
  · split <;> decide
  · decide
theorem knL_one {l:List Bool} (h:l.length=1):0≤knL l:=by
  obtain ⟨a,rfl⟩:=List.length_eq_one_iff.1 h
  cases a <;> decide
theorem knownT_tok {n:Nat} {l:List Bool} (hn:n≤12) (hl:l.length=2 ^ n):knownT (n:Int) (ones l)=knL l:=by
  unfold knownT
  rw [tok_ones hn hl,flags_ones,if_pos rfl]
  rfl
def tabV (n:Nat) (l:List Bool) (v:List Int):List Bool:=seg l (plN v * 2 ^ (n - v.length)) (2 ^ (n - v.length))
theorem tabV_len {n:Nat} {l:List Bool} (hl:l.length=2 ^ n) {v:List Int} (hv:v.length≤n) (hb:v.all isBit=true):(tabV n l v).length=2 ^ (n - v.length):=by
  obtain ⟨h1,h2⟩:=plN_bd hb v.length (Nat.le_refl _)
  rw [List.take_length] at h2
  have h3:2 ^ n=2 ^ v.length * 2 ^ (n - v.length):=by rw [← Nat.pow_add];congr 1;omega
  refine seg_len ?_
  rw [hl,h3,← Nat.succ_mul]
  exact Nat.mul_le_mul_right _ h2
def keyV (n:Nat) (l:List Bool) (v:List Int):ByteArray:=keyOf ((n - v.length:Nat):Int) (ones (tabV n l v))
theorem impl_key_ev {n:Nat} {l:List Bool} (hn:n≤12) (hl:l.length=2 ^ n):Ev (fun k=>impl_Table_key.f k (n:Int) (ones l)) (keyOf (n:Int) (ones l)):=by
  have hp:=pow12 hn
  have hd:=digs12 hn
  refine ev_ge 22 fun k hk=>?_
  unfold impl_Table_key.f keyOf
  rw [impl_decimal_nat n (by omega) k (by omega),Option.bind_some,byts_size,ones_size,if_pos (by omega),if_pos (by omega),tok_ones hn hl,if_pos rfl,Int.toNat_natCast]
def look (key:ByteArray):List S86→Option Int
  | []=>none
  | x :: r=>if x.f0.toList=key.toList then some x.f1 else look key r
def lookV:Option Int→Int
  | none => -1
  | some r=>r
theorem drop_rdS (m:List S86) (i:Nat) (hi:i < m.length):m.drop i=rd_T86 m (i:Int) :: m.drop (i + 1):=by
  rw [List.drop_eq_getElem_cons hi,rdS_nat,getD_lt m i _ hi]
theorem spec_find_ev (key:ByteArray) (m:List S86) (hm:m.length≤1048576):Ev (fun k=>spec_l09Find.f k m key) (lookV (look key m)):=by
  have h:∀ d i,i + d=m.length→Ev (fun k=>spec_l09Find.l0 k m key (i:Int)) (lookV (look key (m.drop i))):=by
    intro d
    induction d with
    | zero =>
      intro i hi
      refine ev_succ ?_
      simp only [spec_l09Find.l0,if_neg (show ¬ (i:Int) < (m.length:Int) by omega),List.drop_of_length_le (show m.length≤i by omega)]
      exact ev_some _
    | succ d ih =>
      intro i hi
      refine ev_succ ?_
      rw [drop_rdS m i (by omega)]
      simp only [spec_l09Find.l0,look,if_pos (show (i:Int) < (m.length:Int) by omega),if_pos (show 0≤(i:Int) by omega),w64s i (show i < 4611686018427387904 by omega)]
      by_cases c:(rd_T86 m (i:Int)).f0.toList=key.toList
      · simp only [if_pos c];exact ev_some _
      · simp only [if_neg c];exact ih (i + 1) (by omega)
  exact h m.length 0 (by omega)
theorem impl_seen_ev (key:ByteArray) (m:List S86) (hm:m.length≤1048576):∃ q:Int,Ev (fun k=>seenF k m key 0) q∧((q = -1∧look key m=none)∨(0≤q∧q < (m.length:Int)∧look key m=some (rd_T86 m q).f1)):=by
  have h:∀ d i,i + d=m.length→∃ q:Int,Ev (fun k=>seenF k m key (i:Int)) q∧((q = -1∧look key (m.drop i)=none)∨(0≤q∧q < (m.length:Int)∧look key (m.drop i)=some (rd_T86 m q).f1)):=by
    intro d
    induction d with
    | zero =>
      intro i hi
      refine ⟨-1,ev_succ ?_,.inl ⟨rfl,by rw [List.drop_of_length_le (by omega)];rfl⟩⟩
      simp only [seenF,if_neg (show ¬ (i:Int) < (m.length:Int) by omega)]
      exact ev_some _
    | succ d ih =>
      intro i hi
      rw [drop_rdS m i (by omega)]
      simp only [look]
      by_cases c:(rd_T86 m (i:Int)).f0.toList=key.toList
      · refine ⟨(i:Int),ev_succ ?_,.inr ⟨by omega,by omega,by rw [if_pos c]⟩⟩
        simp only [seenF,if_pos (show (i:Int) < (m.length:Int) by omega),if_pos (show 0≤(i:Int) by omega),if_pos c]
        exact ev_some _
      · obtain ⟨q,e,hq⟩:=ih (i + 1) (by omega)
        refine ⟨q,ev_succ ?_,by rw [if_neg c];exact hq⟩
        simp only [seenF,if_pos (show (i:Int) < (m.length:Int) by omega),if_pos (show 0≤(i:Int) by omega),if_neg c,w64s i (show i < 4611686018427387904 by omega)]
        exact e
  exact h m.length 0 (by omega)
theorem look_01 {key:ByteArray}:∀ {m:List S86},(∀ x∈m,x.f1=0∨x.f1=1)→∀ {r:Int},look key m=some r→r=0∨r=1:=by
  intro m
  induction m with
  | nil=>intro _ r h;cases h
  | cons x m ih =>
    intro hm r h
    simp only [look] at h
    split at h
    · obtain rfl:=Option.some.inj h;exact hm x (by simp)
    · exact ih (fun y hy=>hm y (by simp [hy])) h
structure MInv (n:Nat) (l:List Bool) (M:MS):Prop where
  hn:n≤12
  hl:l.length=2 ^ n
  N:M.N=(n:Int)
  s:M.s=ones l
  r:M.r.length=n
  v:M.v.length≤n
  vb:M.v.all isBit=true
  ret : -1≤M.ret∧M.ret≤1
  st:0≤M.st∧M.st≤1000000000
  lo:0≤M.lo∧M.lo≤1000000000
  hi:0≤M.hi∧M.hi≤1000000000
  room:0≤M.room∧M.room≤40
  memo:(M.memo.length:Int)≤M.room
  m01:∀ x∈M.memo,x.f1=0∨x.f1=1
def downR (n:Nat) (l:List Bool) (M:MS):MS :=
  if 0≤knL (tabV n l M.v) then { M with ret:=knL (tabV n l M.v),lo:=M.lo + 1 } else
  match look (keyV n l M.v) M.memo with
  | some r=>{ M with ret:=r,hi:=M.hi + 1 }
  | none=>{ M with v:=M.v ++ [0] }
def upR (n:Nat) (l:List Bool) (M:MS):MS :=
  if M.v.length=0 then { M with over:=true } else
  if (M.r.getD (M.v.length - 1) false != (M.ret == 0))=true∧M.v.getD (M.v.length - 1) 0=0 then { M with v:=M.v.set (M.v.length - 1) 1,ret := -1 } else
  if M.room=0 then { M with v:=M.v.take (M.v.length - 1) } else
  match look (keyV n l (M.v.take (M.v.length - 1))) M.memo with
  | some _=>{ M with v:=M.v.take (M.v.length - 1) }
  | none=>{ M with v:=M.v.take (M.v.length - 1),memo:=if ((M.memo ++ [(⟨keyV n l (M.v.take (M.v.length - 1)),M.ret⟩:S86)]).length:Int) > M.room then (M.memo ++ [(⟨keyV n l (M.v.take (M.v.length - 1)),M.ret⟩:S86)]).drop 1 else M.memo ++ [(⟨keyV n l (M.v.take (M.v.length - 1)),M.ret⟩:S86)] }
theorem impl_down_ev {n:Nat} {l:List Bool} {M:MS} (h:MInv n l M) (hlo:M.lo < 1000000000) (hhi:M.hi < 1000000000):Ev (fun k=>downF k M) (downR n l M):=by
  unfold downF downR
  rw [h.N,h.s]
  have hlen:=tabV_len h.hl h.v h.vb
  have hn:=h.hn
  have hv:=h.v
  have hr:=h.room
  have hm:=h.memo
  refine ev_bind (impl_left_ev h.hn h.hl M.v h.v h.vb) ?_
  show Ev (fun k=>(impl_Table_known.f ((n - M.v.length:Nat):Int) (ones (tabV n l M.v))).bind _) _
  simp only [impl_Table_known_eq,Option.bind_some]
  by_cases c:0≤knL (tabV n l M.v)
  · rw [if_pos c]
    unfold knL at c ⊢
    simp only [if_pos c]
    have hw:wrap64 (M.lo + 1)=M.lo + 1:=w64 (by have:=h.lo;omega) (by omega)
    simp only [hw]
    exact ev_some _
  rw [if_neg c]
  unfold knL at c
  simp only [if_neg c]
  refine ev_bind (impl_key_ev (by omega) hlen) ?_
  show Ev (fun k=>(seenF k M.memo (keyV n l M.v) 0).bind _) _
  obtain ⟨q,eq,hq⟩:=impl_seen_ev (keyV n l M.v) M.memo (by omega)
  refine ev_bind eq ?_
  rcases hq with ⟨rfl,hk⟩ | ⟨h0,h1,hk⟩
  · rw [hk]
    simp only [if_neg (show ¬ (0:Int) ≤ -1 by decide),if_pos (show M.v.length < 17592186044416 by omega)]
    exact ev_some _
  · rw [hk]
    simp only [if_pos h0,if_pos h1]
    have hw:wrap64 (M.hi + 1)=M.hi + 1:=w64 (by have:=h.hi;omega) (by omega)
    simp only [hw]
    exact ev_some _
def tupM (M:MS):List Bool × Int × ByteArray × Int × List Int × Int × Bool × Int × Int × Int × (List S86):=(M.r,M.N,M.s,M.room,M.v,M.ret,M.over,M.st,M.lo,M.hi,M.memo)
theorem spec_down_ev {n:Nat} {l:List Bool} {M:MS} (h:MInv n l M) (hlo:M.lo < 1000000000) (hhi:M.hi < 1000000000) :
    Ev (fun k=>spec_l09Down.f k M.r M.N M.s M.room M.v M.ret M.over M.st M.lo M.hi M.memo) (tupM (downR n l M)):=by
  unfold spec_l09Down.f downR
  have hlen:=tabV_len h.hl h.v h.vb
  have hn:=h.hn
  have hv:=h.v
  have hr:=h.room
  have hm:=h.memo
  have hp:=Nat.pow_le_pow_right (n:=2) (by decide) (show n - M.v.length≤12 by omega)
  have hsz:(ones (tabV n l M.v)).size≤1099511627776:=by rw [ones_size,hlen];omega
  have e0:=spec_left_ev M.r h.hn h.hl M.room M.v h.v h.vb M.ret M.over M.st M.lo M.hi M.memo
  rw [← h.N,← h.s] at e0
  refine ev_bind e0 ?_
  show Ev (fun k=>(spec_Known.f k ((n - M.v.length:Nat):Int) (ones (tabV n l M.v))).bind _) _
  have ek:=ev_ge _ (spec_Known_eq ((n - M.v.length:Nat):Int) (ones (tabV n l M.v)) hsz)
  rw [knownT_tok (by omega) hlen] at ek
  refine ev_bind ek ?_
  by_cases c:0≤knL (tabV n l M.v)
  · rw [if_pos c]
    simp only [if_pos (show knL (tabV n l M.v) ≥ 0 from c)]
    have hw:wrap64 (M.lo + 1)=M.lo + 1:=w64 (by have:=h.lo;omega) (by omega)
    simp only [hw]
    exact ev_some _
  rw [if_neg c]
  simp only [if_neg (show ¬ knL (tabV n l M.v) ≥ 0 from c)]
  refine ev_bind (ev_ge _ (spec_TableKey_eq ((n - M.v.length:Nat):Int) (ones (tabV n l M.v)) hsz)) ?_
  show Ev (fun k=>(spec_l09Find.f k M.memo (keyV n l M.v)).bind _) _
  refine ev_bind (spec_find_ev (keyV n l M.v) M.memo (by omega)) ?_
  cases hk:look (keyV n l M.v) M.memo with
  | none =>
    simp only [if_neg (show ¬ lookV none ≥ 0 by decide),if_pos (show M.v.length < 17592186044416 by omega)]
    exact ev_some _
  | some r =>
    have:=look_01 h.m01 hk
    simp only [if_pos (show lookV (some r) ≥ 0 by show r ≥ 0;omega)]
    simp only [lookV]
    have hw:wrap64 (M.hi + 1)=M.hi + 1:=w64 (by have:=h.hi;omega) (by omega)
    simp only [hw]
    exact ev_some _
theorem take_bits {v:List Int} (h:v.all isBit=true) (m:Nat):(v.take m).all isBit=true:=List.all_eq_true.2 fun x hx=>List.all_eq_true.1 h x (List.mem_of_mem_take hx)
theorem upD {M:MS} {n:Nat} {l:List Bool} (h:MInv n l M) (h0:M.v.length≠0):wrap64 ((M.v.length:Int) - 1)=((M.v.length - 1:Nat):Int):=by
  have:=h.v
  have:=h.hn
  rw [w64 (by omega) (by omega)]
  omega
theorem impl_up_ev {n:Nat} {l:List Bool} {M:MS} (h:MInv n l M) (hret:0≤M.ret):Ev (fun k=>upF k M) (upR n l M):=by
  unfold upF upR
  have hn:=h.hn
  have hv:=h.v
  have hr:=h.room
  have hm:=h.memo
  by_cases c0:M.v.length=0
  · rw [if_pos c0]
    simp only [c0,if_pos (show wrap64 (((0:Nat):Int) - 1) < 0 by decide +kernel)]
    exact ev_some _
  rw [if_neg c0]
  simp only [upD h c0,if_neg (show ¬ ((M.v.length - 1:Nat):Int) < 0 by omega),if_pos (show ((M.v.length - 1:Nat):Int) < (M.r.length:Int)∧((M.v.length - 1:Nat):Int) < (M.v.length:Int) by have:=h.r;omega),rdOf_nat,Int.toNat_natCast,beq_iff_eq]
  by_cases c1:(M.r.getD (M.v.length - 1) false != (M.ret == 0))=true∧M.v.getD (M.v.length - 1) 0=0
  · simp only [if_pos c1];exact ev_some _
  simp only [if_neg c1]
  by_cases c2:M.room=0
  · simp only [if_pos c2];exact ev_some _
  simp only [if_neg c2]
  have hV:(M.v.take (M.v.length - 1)).length=M.v.length - 1:=by rw [List.length_take];omega
  have hb:=take_bits h.vb (M.v.length - 1)
  have hlen:=tabV_len h.hl (v:=M.v.take (M.v.length - 1)) (by omega) hb
  have e0:=impl_left_ev h.hn h.hl (M.v.take (M.v.length - 1)) (by omega) hb
  rw [← h.N,← h.s] at e0
  refine ev_bind e0 ?_
  refine ev_bind (impl_key_ev (n:=n - (M.v.take (M.v.length - 1)).length) (l:=tabV n l (M.v.take (M.v.length - 1))) (by omega) hlen) ?_
  obtain ⟨q,eq,hq⟩:=impl_seen_ev (keyV n l (M.v.take (M.v.length - 1))) M.memo (by omega)
  refine ev_bind eq ?_
  rcases hq with ⟨rfl,hk⟩ | ⟨h0,h1,hk⟩
  · rw [hk]
    simp only [if_neg (show ¬ (0:Int) ≤ -1 by decide),if_pos (show M.memo.length < 5864062014805 by omega)]
    by_cases c3:((M.memo ++ [(⟨keyV n l (M.v.take (M.v.length - 1)),M.ret⟩:S86)]).length:Int) > M.room
    · simp only [if_pos c3]
      refine ev_eq (f:=fun _=>some _) (fun k=>if_pos c3) (ev_some _)
    · simp only [if_neg c3]
      refine ev_eq (f:=fun _=>some _) (fun k=>if_neg c3) (ev_some _)
  · rw [hk]
    simp only [if_pos h0]
    exact ev_some _
theorem spec_up_ev {n:Nat} {l:List Bool} {M:MS} (h:MInv n l M) (hret:0≤M.ret) :
    Ev (fun k=>spec_l09Up.f k M.r M.N M.s M.room M.v M.ret M.over M.st M.lo M.hi M.memo) (tupM (upR n l M)):=by
  unfold spec_l09Up.f upR
  have hn:=h.hn
  have hv:=h.v
  have hr:=h.room
  have hm:=h.memo
  by_cases c0:M.v.length=0
  · rw [if_pos c0]
    simp only [c0,if_pos (show wrap64 (((0:Nat):Int) - 1) < 0 by decide +kernel)]
    exact ev_some _
  rw [if_neg c0]
  simp only [upD h c0,if_neg (show ¬ ((M.v.length - 1:Nat):Int) < 0 by omega),if_pos (show 0≤((M.v.length - 1:Nat):Int) by omega),if_pos (show ((M.v.length - 1:Nat):Int) < (M.r.length:Int) by have:=h.r;omega),if_pos (show ((M.v.length - 1:Nat):Int) < (M.v.length:Int) by omega),rdOf_nat,rd_nat]
  have hV:(M.v.take (M.v.length - 1)).length=M.v.length - 1:=by rw [List.length_take];omega
  have hb:=take_bits h.vb (M.v.length - 1)
  have hlen:=tabV_len h.hl (v:=M.v.take (M.v.length - 1)) (by omega) hb
  have hp:=Nat.pow_le_pow_right (n:=2) (by decide) (show n - (M.v.take (M.v.length - 1)).length≤12 by omega)
  have hsz:(ones (tabV n l (M.v.take (M.v.length - 1)))).size≤1099511627776:=by rw [ones_size,hlen];omega
  -- behind the test
  have j1:∀ x:Bool,Ev (fun k=>spec_l09Up.j1 k (keyV n l (M.v.take (M.v.length - 1))) x M.r M.N M.s M.room (M.v.take (M.v.length - 1)) M.ret M.over M.st M.lo M.hi M.memo)
      (tupM (if x=true then { M with v:=M.v.take (M.v.length - 1),memo:=if ((M.memo ++ [(⟨keyV n l (M.v.take (M.v.length - 1)),M.ret⟩:S86)]).length:Int) > M.room then (M.memo ++ [(⟨keyV n l (M.v.take (M.v.length - 1)),M.ret⟩:S86)]).drop 1 else M.memo ++ [(⟨keyV n l (M.v.take (M.v.length - 1)),M.ret⟩:S86)] } else { M with v:=M.v.take (M.v.length - 1) })):=by
    intro x
    refine ev_succ ?_
    simp only [spec_l09Up.j1]
    cases x with
    | false=>simp only [Bool.false_eq_true,if_false];exact ev_some _
    | true =>
      simp only [if_true,if_pos (show M.memo.length < 5864062014805 by omega),Option.bind_some]
      by_cases c3:((M.memo ++ [(⟨keyV n l (M.v.take (M.v.length - 1)),M.ret⟩:S86)]).length:Int) > M.room
      · simp only [if_pos c3]
        rw [if_pos (by simp;omega),if_pos (by simp;omega)]
        exact ev_some _
      · simp only [if_neg c3]
        exact ev_some _
  have j0:∀ x:Bool,(x=false→¬ ((M.r.getD (M.v.length - 1) false != (M.ret == 0))=true∧M.v.getD (M.v.length - 1) 0=0))→(x=true→((M.r.getD (M.v.length - 1) false != (M.ret == 0))=true∧M.v.getD (M.v.length - 1) 0=0)) →
      Ev (fun k=>spec_l09Up.j0 k ((M.v.length - 1:Nat):Int) x M.r M.N M.s M.room M.v M.ret M.over M.st M.lo M.hi M.memo) (tupM (upR n l M)):=by
    intro x hx hx2
    unfold upR
    rw [if_neg c0]
    refine ev_succ ?_
    simp only [spec_l09Up.j0]
    cases x with
    | true =>
      rw [if_pos (hx2 rfl)]
      simp only [if_true,if_pos (show 0≤((M.v.length - 1:Nat):Int) by omega),if_pos (show ((M.v.length - 1:Nat):Int) < (M.v.length:Int) by omega),Int.toNat_natCast]
      exact ev_some _
    | false =>
      rw [if_neg (hx rfl)]
      simp only [Bool.false_eq_true,if_false,if_pos (show 0≤((M.v.length - 1:Nat):Int) by omega),if_pos (show ((M.v.length - 1:Nat):Int)≤(M.v.length:Int) by omega),Option.bind_some,Int.toNat_natCast]
      have e0:=spec_left_ev M.r h.hn h.hl M.room (M.v.take (M.v.length - 1)) (by omega) hb M.ret M.over M.st M.lo M.hi M.memo
      rw [← h.N,← h.s] at e0
      refine ev_bind e0 ?_
      refine ev_bind (ev_ge _ (spec_TableKey_eq ((n - (M.v.take (M.v.length - 1)).length:Nat):Int) (ones (tabV n l (M.v.take (M.v.length - 1)))) hsz)) ?_
      by_cases c2:M.room=0
      · simp only [if_pos c2,if_neg (show ¬ M.room > 0 by omega)]
        exact j1 false
      · simp only [if_neg c2,if_pos (show M.room > 0 by omega)]
        refine ev_bind (spec_find_ev (keyV n l (M.v.take (M.v.length - 1))) M.memo (by omega)) ?_
        cases hk:look (keyV n l (M.v.take (M.v.length - 1))) M.memo with
        | none=>exact j1 true
        | some r =>
          have:=look_01 h.m01 hk
          have e:=j1 false
          rw [show decide (lookV (some r) < 0)=false from decide_eq_false (by show ¬ r < 0;omega)]
          exact e
  have hu:tupM (upR n l M)=tupM (upR n l M):=rfl
  conv at hu=>lhs;unfold upR
  rw [if_neg c0] at hu
  rw [hu]
  by_cases c1:(M.r.getD (M.v.length - 1) false != (M.ret == 0))=true
  · simp only [if_pos c1]
    refine j0 _ (fun hx hh=>?_) (fun hx=>⟨c1,by simpa using hx⟩)
    rw [hh.2] at hx;exact absurd hx (by decide)
  · simp only [if_neg c1]
    exact j0 false (fun _ hh=>c1 hh.1) (fun hx=>absurd hx (by decide))
def stopR (M:MS):Bool:=M.over || (M.st == 1000000000) || (M.lo == 1000000000) || (M.hi == 1000000000)
def stepR (n:Nat) (l:List Bool) (M:MS):MS:=if M.ret < 0 then downR n l { M with st:=M.st + 1 } else upR n l { M with st:=M.st + 1 }
def runR (n:Nat) (l:List Bool):Nat→MS→MS
  | 0,M=>M
  | d + 1,M=>if stopR M=true then M else runR n l d (stepR n l M)
theorem MInv.down {n:Nat} {l:List Bool} {M:MS} (h:MInv n l M) (hlo:M.lo < 1000000000) (hhi:M.hi < 1000000000):MInv n l (downR n l M):=by
  unfold downR
  have hb:=knL_bd (tabV n l M.v)
  have h1:=h.lo
  have h2:=h.hi
  by_cases c:0≤knL (tabV n l M.v)
  · rw [if_pos c]
    exact { h with ret:=hb,lo:=by show 0≤M.lo + 1∧M.lo + 1≤1000000000;omega }
  rw [if_neg c]
  have hv:M.v.length < n:=by
    rcases Nat.lt_or_ge M.v.length n with h3|h3
    · exact h3
    · have hlen:=tabV_len h.hl h.v h.vb
      have:n - M.v.length=0:=by omega
      rw [this] at hlen
      exact absurd (knL_one hlen) c
  cases hk:look (keyV n l M.v) M.memo with
  | none=>exact { h with v:=by show (M.v ++ [0]).length≤n;simp;omega,vb:=by show (M.v ++ [0]).all isBit=true;rw [List.all_append,h.vb];rfl }
  | some r =>
    have:=look_01 h.m01 hk
    exact { h with ret:=by show -1≤r∧r≤1;omega,hi:=by show 0≤M.hi + 1∧M.hi + 1≤1000000000;omega }
theorem MInv.up {n:Nat} {l:List Bool} {M:MS} (h:MInv n l M) (hret:0≤M.ret):MInv n l (upR n l M):=by
  unfold upR
  have hv:=h.v
  have hm:=h.memo
  have hr:=h.room
  have h1:=h.ret
  by_cases c0:M.v.length=0
  · rw [if_pos c0];exact { h with }
  rw [if_neg c0]
  have hV:(M.v.take (M.v.length - 1)).length≤n:=by rw [List.length_take];omega
  have hb:=take_bits h.vb (M.v.length - 1)
  by_cases c1:(M.r.getD (M.v.length - 1) false != (M.ret == 0))=true∧M.v.getD (M.v.length - 1) 0=0
  · rw [if_pos c1]
    refine { h with v:=by show (M.v.set (M.v.length - 1) 1).length≤n;rw [List.length_set];exact hv,vb:=?_,ret:=by show -1≤(-1:Int)∧(-1:Int)≤1;omega }
    show (M.v.set (M.v.length - 1) 1).all isBit=true
    refine List.all_eq_true.2 fun x hx=>?_
    rcases List.mem_or_eq_of_mem_set hx with hx|hx
    · exact List.all_eq_true.1 h.vb x hx
    · rw [hx];rfl
  rw [if_neg c1]
  by_cases c2:M.room=0
  · rw [if_pos c2];exact { h with v:=hV,vb:=hb }
  rw [if_neg c2]
  cases hk:look (keyV n l (M.v.take (M.v.length - 1))) M.memo with
  | some r=>exact { h with v:=hV,vb:=hb }
  | none =>
    refine { h with v:=hV,vb:=hb,memo:=?_,m01:=?_ }
    · dsimp only
      split
      · rw [List.length_drop,List.length_append,List.length_singleton];omega
      · rename_i c;omega
    · dsimp only
      intro x hx
      have hx2:x∈M.memo ++ [(⟨keyV n l (M.v.take (M.v.length - 1)),M.ret⟩:S86)]:=by
        split at hx
        · exact List.mem_of_mem_drop hx
        · exact hx
      rcases List.mem_append.1 hx2 with hx3|hx3
      · exact h.m01 x hx3
      · rw [List.mem_singleton.1 hx3];show M.ret=0∨M.ret=1;omega
theorem stop_no {M:MS} (h:stopR M=false):M.over=false∧M.st≠1000000000∧M.lo≠1000000000∧M.hi≠1000000000:=by
  unfold stopR at h
  simpa [and_assoc] using h
theorem MInv.st1 {n:Nat} {l:List Bool} {M:MS} (h:MInv n l M) (hs:M.st≠1000000000):MInv n l { M with st:=M.st + 1 }:=by
  have:=h.st
  exact { h with st:=by show 0≤M.st + 1∧M.st + 1≤1000000000;omega }
theorem MInv.step {n:Nat} {l:List Bool} {M:MS} (h:MInv n l M) (hs:stopR M=false):MInv n l (stepR n l M):=by
  obtain ⟨_,s1,s2,s3⟩:=stop_no hs
  have h1:=h.lo
  have h2:=h.hi
  unfold stepR
  split
  · exact (h.st1 s1).down (by show M.lo < _;omega) (by show M.hi < _;omega)
  · exact (h.st1 s1).up (by show 0≤M.ret;omega)
theorem runR_stop (n:Nat) (l:List Bool) {M:MS} (h:stopR M=true):∀ d,runR n l d M=M:=by
  intro d
  cases d with
  | zero=>rfl
  | succ d=>unfold runR;rw [if_pos h]
theorem impl_step_ev {n:Nat} {l:List Bool} {M:MS} (h:MInv n l M):Ev (fun k=>stepF k M) (if stopR M=true then (M,false) else (stepR n l M,true)):=by
  cases hs:stopR M with
  | true =>
    simp only [if_true]
    refine ev_eq (f:=fun _=>some (M,false)) (fun k=>?_) (ev_some _)
    unfold stopR at hs
    simp only [Bool.or_eq_true,beq_iff_eq] at hs
    unfold stepF
    by_cases c1:M.over=true
    · rw [if_pos c1]
    rw [if_neg c1]
    by_cases c2:M.st=1000000000
    · rw [if_pos c2]
    rw [if_neg c2]
    by_cases c3:M.lo=1000000000
    · rw [if_pos c3]
    rw [if_neg c3]
    by_cases c4:M.hi=1000000000
    · rw [if_pos c4]
    simp [c1,c2,c3,c4] at hs
  | false =>
    obtain ⟨s0,s1,s2,s3⟩:=stop_no hs
    have h1:=h.lo
    have h2:=h.hi
    have h3:=h.st
    have hi:=h.st1 s1
    simp only [Bool.false_eq_true,if_false]
    unfold stepF stepR
    simp only [if_neg (show ¬ M.over=true by rw [s0];decide),if_neg s1,if_neg s2,if_neg s3,w64 (n:=M.st + 1) (by omega) (by omega)]
    by_cases c:M.ret < 0
    · simp only [if_pos c]
      exact ev_bind (impl_down_ev hi (by show M.lo < _;omega) (by show M.hi < _;omega)) (ev_some _)
    · simp only [if_neg c]
      exact ev_bind (impl_up_ev hi (by show 0≤M.ret;omega)) (ev_some _)
theorem impl_run_ev {n:Nat} {l:List Bool} (m:Nat) (hm:m≤100000):∀ (d i:Nat) (M:MS),i + d=m→MInv n l M→Ev (fun k=>runF k M (i:Int) (m:Int)) (runR n l d M):=by
  intro d
  induction d with
  | zero =>
    intro i M hi h
    refine ev_succ ?_
    simp only [runF,if_neg (show ¬ (i:Int) < (m:Int) by omega)]
    exact ev_some _
  | succ d ih =>
    intro i M hi h
    refine ev_succ ?_
    simp only [runF,if_pos (show (i:Int) < (m:Int) by omega),w64s i (show i < 4611686018427387904 by omega)]
    refine ev_bind (impl_step_ev h) ?_
    unfold runR
    cases hs:stopR M with
    | true=>simp only [if_true,Bool.false_eq_true,if_false];exact ev_some _
    | false=>simp only [Bool.false_eq_true,if_false,if_true];exact ih (i + 1) _ (by omega) (h.step hs)
theorem spec_step_ev {n:Nat} {l:List Bool} {M:MS} (h:MInv n l M) (h1:M.lo < 1000000000) (h2:M.hi < 1000000000) :
    Ev (fun k=>spec_l09Step.f k M.r M.N M.s M.room M.v M.ret M.over M.st M.lo M.hi M.memo) (tupM (if stopR M=true then M else stepR n l M)):=by
  have hst:=h.st
  have hstop:∀ x:Bool,x=true→stopR M=true→Ev (fun k=>spec_l09Step.j0 k x M.r M.N M.s M.room M.v M.ret M.over M.st M.lo M.hi M.memo) (tupM (if stopR M=true then M else stepR n l M)):=by
    rintro x rfl hs
    rw [if_pos hs]
    refine ev_succ ?_
    simp only [spec_l09Step.j0,if_true]
    exact ev_some _
  unfold spec_l09Step.f
  by_cases c0:M.over=true
  · simp only [if_pos c0]
    exact hstop true rfl (by unfold stopR;rw [c0];rfl)
  simp only [if_neg c0]
  by_cases c1:M.st ≥ 1000000000
  · exact hstop _ (decide_eq_true c1) (by unfold stopR;rw [show (M.st == 1000000000)=true from beq_iff_eq.2 (by omega)];simp)
  rw [show decide (M.st ≥ 1000000000)=false from decide_eq_false c1]
  have hs:stopR M=false:=by
    unfold stopR
    rw [Bool.eq_false_iff.2 c0,show (M.st == 1000000000)=false from beq_eq_false_iff_ne.2 (by omega),show (M.lo == 1000000000)=false from beq_eq_false_iff_ne.2 (by omega),show (M.hi == 1000000000)=false from beq_eq_false_iff_ne.2 (by omega)]
    rfl
  rw [hs]
  have hi:=h.st1 (by omega)
  refine ev_succ ?_
  simp only [spec_l09Step.j0,Bool.false_eq_true,if_false,w64 (n:=M.st + 1) (by omega) (by omega)]
  unfold stepR
  by_cases c:M.ret < 0
  · simp only [if_pos c]
    exact ev_bind (spec_down_ev hi h1 h2) (ev_some _)
  · simp only [if_neg c]
    exact ev_bind (spec_up_ev hi (by show 0≤M.ret;omega)) (ev_some _)
theorem MInv.run {n:Nat} {l:List Bool}:∀ (d:Nat) {M:MS},MInv n l M→MInv n l (runR n l d M):=by
  intro d
  induction d with
  | zero=>intro M h;exact h
  | succ d ih =>
    intro M h
    unfold runR
    cases hs:stopR M with
    | true=>exact h
    | false=>exact ih (h.step hs)
theorem copy_spec (r:List Bool) (N:Int) (s:ByteArray) (rm:Int) (v:List Int) (rt:Int) (o:Bool) (a b c:Int) (m:List S86) (hr:r.length≤1099511627776) (hv:v.length≤1099511627776) (hm:m.length≤1099511627776):spec_l09Copy.f r N s rm v rt o a b c m=some (r,N,s,rm,v,rt,o,a,b,c,m):=by
  unfold spec_l09Copy.f
  rw [Option.bind_some,if_pos (by simp;omega),Option.bind_some,if_pos (by simp;omega),Option.bind_some,if_pos (by simp;omega)]
  simp
theorem mInv_of (r:List Bool) (N:Int) (s:ByteArray) (rm:Int) (v:List Int) (rt:Int) (o:Bool) (a b c:Int) (m:List S86) (h:mOkB r N s rm v rt o a b c m=true) (hm:∀ x∈m,x.f1=0∨x.f1=1):∃ n l,MInv n l ⟨r,N,s,rm,v,rt,o,a,b,c,m⟩:=by
  unfold mOkB at h
  simp only [Bool.and_eq_true] at h
  obtain ⟨⟨⟨⟨⟨⟨htok,hrn⟩,hfr⟩,hbits⟩,hret⟩,hme⟩,hco⟩:=h
  obtain ⟨n,l,rfl,hn,hl,rfl⟩:=tok_form htok
  unfold okFront at hfr
  unfold okRet at hret
  unfold okCounts at hco
  simp only [Bool.and_eq_true,Bool.not_eq_true',decide_eq_false_iff_not,decide_eq_true_eq,beq_iff_eq] at hfr hret hco hrn
  exact ⟨n,l,hn,hl,rfl,rfl,by show r.length=n;omega,by show v.length≤n;omega,hbits,hret.1,hco.1.1,hco.1.2,hco.2,hfr.1.1,by show (m.length:Int)≤rm;omega,hm⟩
theorem okMemo_01 {m:List S86} (h:okMemo m):∀ x∈m,x.f1=0∨x.f1=1:=by
  intro x hx
  obtain ⟨i,hi,rfl⟩:=List.mem_iff_getElem.1 hx
  have:=h i hi
  unfold okSeen at this
  rw [rdS_nat,getD_lt m i _ hi] at this
  omega
theorem mOk_memo (r:List Bool) (N:Int) (s:ByteArray) (rm:Int) (v:List Int) (rt:Int) (o:Bool) (a b c:Int) (m:List S86) (h:mOkB r N s rm v rt o a b c m=true):∀ x∈m,x.f1=0∨x.f1=1:=by
  unfold mOkB at h
  simp only [Bool.and_eq_true] at h
  exact okMemo_01 (of_decide_eq_true h.1.2)
theorem step_both (r:List Bool) (N:Int) (s:ByteArray) (rm:Int) (v:List Int) (rt:Int) (o:Bool) (a b c:Int) (m:List S86) (hs:s.size≤1099511627776) (hr:r.length≤1048576) (hv:v.length≤1048576) (hm:m.length≤1048576) (hk:∀ y∈m,y.f0.size≤maxLen) :
    ∃ M:MS,Ev (fun k=>impl_MachineStep.f k r N s rm v rt o a b c m) (tupM M)∧Ev (fun k=>spec_MachineStep.f k r N s rm v rt o a b c m) (tupM M)∧(M.r.length≤1048576∧M.v.length≤1048576∧M.memo.length≤1048576):=by
  have hi:=impl_MachineOk_ev r N s rm v rt o a b c m hs (by omega) hk
  have hp:=spec_MachineOk_ev r N s rm v rt o a b c m hs (by omega) (by omega)
  unfold impl_MachineStep.f spec_MachineStep.f impl_MachineRun.f
  simp only [copy_spec r N s rm v rt o a b c m (by omega) (by omega) (by omega),show impl_within.f 1 0 100000=some true from rfl,Option.bind_some,if_true,if_pos (show r.length < 140737488355328∧v.length < 17592186044416∧m.length < 5864062014805 by omega)]
  cases hB:mOkB r N s rm v rt o a b c m with
  | false =>
    rw [hB] at hi hp
    refine ⟨⟨r,N,s,rm,v,rt,o,a,b,c,m⟩,ev_bind (a:=(r,N,s,rm,v,rt,o,a,b,c,m)) (ev_bind hi ?_) (ev_some _),ev_bind hp ?_,hr,hv,hm⟩
    · simp only [Bool.false_eq_true,if_false];exact ev_some (r,N,s,rm,v,rt,o,a,b,c,m)
    · simp only [Bool.false_eq_true,if_false];exact ev_some _
  | true =>
    rw [hB] at hi hp
    obtain ⟨n,l,hM⟩:=mInv_of r N s rm v rt o a b c m hB (mOk_memo r N s rm v rt o a b c m hB)
    have e1:=impl_run_ev 1 (by omega) 1 0 _ (by omega) hM
    have hR:=MInv.run 1 hM
    have b1:=hR.r
    have b2:=hR.v
    have b3:=hR.memo
    have b4:=hR.room
    have b5:=hR.hn
    have hlo:=hM.lo
    have hhi:=hM.hi
    dsimp only at hlo hhi
    refine ⟨runR n l 1 ⟨r,N,s,rm,v,rt,o,a,b,c,m⟩,ev_bind (a:=tupM (runR n l 1 ⟨r,N,s,rm,v,rt,o,a,b,c,m⟩)) (ev_bind hi ?_) (ev_some _),ev_bind hp ?_,by omega,by omega,by omega⟩
    · simp only [if_true]
      refine ev_bind e1 ?_
      simp only [if_pos (show (runR n l 1 ⟨r,N,s,rm,v,rt,o,a,b,c,m⟩).r.length < 140737488355328∧(runR n l 1 ⟨r,N,s,rm,v,rt,o,a,b,c,m⟩).v.length < 17592186044416∧(runR n l 1 ⟨r,N,s,rm,v,rt,o,a,b,c,m⟩).memo.length < 5864062014805 by omega)]
      exact ev_some _
    · simp only [if_true]
      by_cases c1:b ≥ 1000000000
      · simp only [if_pos c1]
        rw [runR_stop n l (M:=⟨r,N,s,rm,v,rt,o,a,b,c,m⟩) (by unfold stopR;rw [show (b == 1000000000)=true from beq_iff_eq.2 (by omega)];simp)]
        exact ev_some _
      simp only [if_neg c1]
      by_cases c2:c ≥ 1000000000
      · simp only [if_pos c2]
        rw [runR_stop n l (M:=⟨r,N,s,rm,v,rt,o,a,b,c,m⟩) (by unfold stopR;rw [show (c == 1000000000)=true from beq_iff_eq.2 (by omega)];simp)]
        exact ev_some _
      simp only [if_neg c2]
      have e2:=spec_step_ev hM (by show b < _;omega) (by show c < _;omega)
      have:runR n l 1 ⟨r,N,s,rm,v,rt,o,a,b,c,m⟩=if stopR ⟨r,N,s,rm,v,rt,o,a,b,c,m⟩=true then ⟨r,N,s,rm,v,rt,o,a,b,c,m⟩ else stepR n l ⟨r,N,s,rm,v,rt,o,a,b,c,m⟩:=rfl
      rw [this]
      exact ev_bind e2 (ev_some _)
theorem FnExactMachineStep_pure:∀ (l0_0:List Bool) (a0_1:Int) (a0_2:ByteArray) (a0_3:Int) (l0_4:List Int) (a0_5:Int) (a0_6:Bool) (a0_7:Int) (a0_8:Int) (a0_9:Int) (l0_10:List S130),((l0_0.length≤maxLen∧∀ x_∈l0_0,True)∧((Lit.int .i64 a0_1).wf=true∧a0_2.size≤maxLen)∧(Lit.int .i64 a0_3).wf=true∧(l0_4.length≤maxLen∧∀ x_∈l0_4,(Lit.int .i64 x_).wf=true)∧(Lit.int .i64 a0_5).wf=true∧True∧(Lit.int .i64 a0_7).wf=true∧(Lit.int .i64 a0_8).wf=true∧(Lit.int .i64 a0_9).wf=true∧(l0_10.length≤maxLen∧∀ x_∈l0_10,(x_.f0.size≤maxLen∧(Lit.int .i64 x_.f1).wf=true)))→∃ k,laws_FnExactMachineStep.f k l0_0 a0_1 a0_2 a0_3 l0_4 a0_5 a0_6 a0_7 a0_8 a0_9 l0_10=some true:=by
  intro r N s rm v rt o a b c m ⟨⟨hr,_⟩,⟨_,hs⟩,hrm,⟨hv,_⟩,hrt,_,_,_,_,⟨hm,hmm⟩⟩
  refine ev_rounds ?_
  obtain ⟨y,hy,hyy⟩:=szMachine_ev r N s rm v rt o a b c m hr hs hv hm (fun y hy=>(hmm y hy).1)
  unfold laws_FnExactMachineStep.f
  refine ev_bind hy ?_
  by_cases h:y < 0
  · simp only [if_pos h];exact ev_some _
  simp only [if_neg h]
  obtain ⟨hr,hs,hv,hm⟩:=hyy (by omega)
  have ht:=toMachine_ev r N s rm v rt o a b c m (by omega) (by omega) (by omega)
  have hk:∀ y∈cvS m,y.f0.size≤maxLen:=by
    intro y hy
    simp only [cvS,List.mem_map] at hy
    obtain ⟨z,hz,rfl⟩:=hy
    exact (hmm z hz).1
  have hl:(cvS m).length≤1048576:=by rw [cvS_length];omega
  obtain ⟨M,eI,eS,b1,b2,b3⟩:=step_both r N s rm v rt o a b c (cvS m) (by omega) (by omega) (by omega) hl hk
  obtain ⟨T,hT⟩:=marks_ex
  have hq:=eqMachine_ev r N s rm v rt o a b c (cvS m) (by omega) (by omega) (by omega)
  have hqM:=eqMachine_ev M.r M.N M.s M.room M.v M.ret M.over M.st M.lo M.hi M.memo (by omega) (by omega) (by omega)
  have hmk:=markMachine_ev hT r N s rm v rt o a b c (cvS m) (by omega) (by omega) hl
  have hmM:=markMachine_ev hT M.r M.N M.s M.room M.v M.ret M.over M.st M.lo M.hi M.memo b1 b2 b3
  have hhM:=heldMachine_ev hT M.r.length M.v.length M.memo.length M.N M.s M.room M.ret M.over M.st M.lo M.hi b1 b2 b3
  refine ev_bind ht (ev_bind eS (ev_bind ht (ev_bind eI (ev_bind hqM ?_))))
  simp only [if_true]
  refine ev_bind ht (ev_bind hq ?_)
  simp only [if_true]
  refine ev_bind hmk ?_
  simp only [if_neg (show ¬ ((1 + r.length + v.length + 2 * (cvS m).length:Nat):Int) < 0 by omega)]
  refine ev_bind hqM ?_
  simp only [Bool.not_true]
  refine ev_succ ?_
  simp only [laws_FnExactMachineStep.j0,Bool.false_eq_true,if_false]
  refine ev_bind hmM ?_
  refine ev_bind hhM ?_
  simp only [if_neg (show ¬ ((1 + M.r.length + M.v.length + 2 * M.memo.length:Nat):Int) < 0 by omega),if_true]
  refine ev_bind ht (ev_bind eI (ev_bind hqM ?_))
  simp only [if_true]
  refine ev_bind hhM ?_
  simp only [if_neg (show ¬ ((1 + M.r.length + M.v.length + 2 * M.memo.length:Nat):Int) < 0 by omega),if_true]
  exact ev_some _
end Go.Proofs.Ytlpfmhikahlcoaa.Pure
namespace Go.Proofs.Ytlpfmhikahlcoaa.Open
open Go.Deep Go.ChangeShapes Go.WideShapes Go.RowKit Go.Proofs.YtlpfmhikahlcoaaW.PrintWords
def Opens {α:Type} (P:Program) (t:TypeId) (d:Kd α) (ok:α→Prop):Prop :=
  ∀ (H:Type) (enc:TypeId × Value→H) (w:World) (base:Nat) (spare:Nat→Bool) (held:Bool) (fuel:Nat) (cs:List Value) (x:DataW H × List MemPlace),
    DataW.trod enc P w base spare held fuel t cs=some x→∃ a,d.K w a cs∧ok a
def FOpens {α:Type} (P:Program) (fs:List Field) (off:Nat) (d:Kd α) (ok:α→Prop):Prop :=
  ∀ (H:Type) (enc:TypeId × Value→H) (w:World) (base:Nat) (spare:Nat→Bool) (held:Bool) (fuel:Nat) (cs:List Value),
    (∀ f∈fs,∃ x,DataW.trod enc P w base spare held fuel f.type ((cs.drop f.offset).take (P.cellsOf f.type))=some x)→∃ a,d.K w a ((cs.drop off).take d.sz)∧ok a
theorem opens_int {P:Program} {t:TypeId} {k:IntKind} (hu:P.underlying t=some (.int k)):Opens P t (Kd.int k) (fun a=>(Lit.int k a).wf=true):=by
  intro H enc w base spare held fuel cs x h
  obtain ⟨n,rfl,_,hw⟩:=DataW.trod_int hu h
  exact ⟨n,rfl,hw⟩
theorem opens_bool {P:Program} {t:TypeId} (hu:P.underlying t=some .bool):Opens P t Kd.bool (fun _=>True):=by
  intro H enc w base spare held fuel cs x h
  obtain ⟨n,rfl,_⟩:=DataW.trod_bool hu h
  exact ⟨n,rfl,trivial⟩
theorem opens_string {P:Program} {t:TypeId} (hu:P.underlying t=some .string):Opens P t Kd.string (fun s=>s.size≤maxLen):=by
  intro H enc w base spare held fuel cs x h
  obtain ⟨n,rfl,_,hw⟩:=DataW.trod_string hu h
  exact ⟨n,rfl,hw⟩
theorem list_of {α:Type} {p:Nat→α→Prop}:∀ n,(∀ i,i < n→∃ a,p i a)→∃ l:List α,l.length=n∧∀ i a,l[i]? = some a→p i a
  | 0,_=>⟨[],rfl,fun i a h=>by simp at h⟩
  | n + 1,h=>by
    obtain ⟨l,hl,hp⟩:=list_of n (fun i hi=>h i (by omega))
    obtain ⟨a,ha⟩:=h n (by omega)
    refine ⟨l ++ [a],by simp [hl],fun i b hb=>?_⟩
    rw [List.getElem?_append] at hb
    split at hb
    · exact hp i b hb
    · rename_i hi
      have e:i=n:=by
        rcases Nat.lt_or_ge (i - l.length) 1 with h1|h1
        · omega
        · rw [List.getElem?_eq_none (by simpa using h1)] at hb
          cases hb
      subst e
      rw [hl,Nat.sub_self] at hb
      cases hb
      exact ha
theorem opens_slice {α:Type} {P:Program} {t e:TypeId} {d:Kd α} {ok:α→Prop} (hu:P.underlying t=some (.slice e)) (hc:P.cellsOf e=d.sz) (h:Opens P e d ok) :
    Opens P t (Kd.slice e d) (fun l=>l.length≤maxLen∧∀ x∈l,ok x):=by
  intro H enc w base spare held fuel cs x hx
  rcases open_slice hu hx with ⟨rfl,rfl⟩ | ⟨a,len,cap,m,n,D,Pl,rfl,hb,hl,hm,hmm,rfl,hel⟩
  · exact ⟨[],⟨none,0,rfl,Nat.le_refl _,rfl,by simp,fun h=>absurd h (by simp)⟩,by simp [maxLen],by simp⟩
  · have hle:len≤m:=by rw [hmm];split <;> omega
    have hone:∀ i,i < len→∃ y:α,(∃ cs',w.cells? base (a.add (i * P.cellsOf e)) (P.cellsOf e)=some cs'∧d.K w y cs')∧ok y:=by
      intro i hi
      obtain ⟨cs',h1,h2⟩:=hel i (by omega)
      obtain ⟨y,hk,ho⟩:=h H enc w base spare held n cs' _ h2
      exact ⟨y,⟨cs',h1,hk⟩,ho⟩
    obtain ⟨l,hll,hp⟩:=list_of len hone
    subst hll
    refine ⟨l,⟨some a,cap,rfl,hl,rfl,by simp only [maxLen] at hm;omega,fun _=>⟨a,rfl,fun j p hj=>?_⟩⟩,by omega,?_⟩
    · obtain ⟨⟨cs',h1,hk⟩,_⟩:=hp j p hj
      refine ⟨cs',d.K_len hk,hk,fun i u hu=>?_⟩
      have hlt:i < cs'.length:=by
        rcases Nat.lt_or_ge i cs'.length with h'|h'
        · exact h'
        · rw [List.getElem?_eq_none h'] at hu;cases hu
      have hlen:=d.K_len hk
      obtain ⟨_,hlen2,hcell⟩:=World.cells?_some h1
      rw [hc] at hcell
      have:=hcell i (by omega)
      rw [hu] at this
      rw [← Addr.add_add]
      exact this.symm ▸ rfl
    · intro x hx
      obtain ⟨i,hi,rfl⟩:=List.getElem_of_mem hx
      exact (hp i _ (List.getElem?_eq_getElem hi)).2
theorem fopens_one {α:Type} {P:Program} {f:Field} {off:Nat} {d:Kd α} {ok:α→Prop} (ho:f.offset=off) (hc:P.cellsOf f.type=d.sz) (h:Opens P f.type d ok):FOpens P [f] off d ok:=by
  intro H enc w base spare held fuel cs hx
  obtain ⟨x,hx⟩:=hx f (by simp)
  rw [ho,hc] at hx
  exact h H enc w base spare held fuel _ x hx
theorem fopens_cons {α β:Type} {P:Program} {f:Field} {fs:List Field} {off:Nat} {d:Kd α} {d':Kd β} {ok:α→Prop} {ok':β→Prop} (ho:f.offset=off) (hc:P.cellsOf f.type=d.sz) (h:Opens P f.type d ok)
    (hs:FOpens P fs (off + d.sz) d' ok'):FOpens P (f :: fs) off (Kd.pair d d') (fun x=>ok x.1∧ok' x.2):=by
  intro H enc w base spare held fuel cs hx
  obtain ⟨a,ha,hoa⟩:=fopens_one ho hc h H enc w base spare held fuel cs (fun g hg=>hx g (by simp at hg;simp [hg]))
  obtain ⟨b,hb,hob⟩:=hs H enc w base spare held fuel cs (fun g hg=>hx g (by simp [hg]))
  refine ⟨(a,b),⟨_,_,?_,ha,hb⟩,hoa,hob⟩
  show (cs.drop off).take (d.sz + d'.sz)=_
  rw [List.take_add,List.drop_drop]
theorem opens_struct {α:Type} {P:Program} {t:TypeId} {fs:Array Field} {d:Kd α} {ok:α→Prop} (hu:P.underlying t=some (.struct fs)) (hc:P.cellsOf t=d.sz) (h:FOpens P fs.toList 0 d ok):Opens P t d ok:=by
  intro H enc w base spare held fuel cs x hx
  obtain ⟨xs,n,rfl,_,hlen,hxl,hf⟩:=DataW.trod_struct hu hx
  have:=h H enc w base spare held n cs (fun f hm=>by
    obtain ⟨i,hi,rfl⟩:=List.getElem_of_mem hm
    have hi':i < fs.size:=by simpa using hi
    have e:=hf i fs[i] (Array.getElem?_eq_getElem hi')
    rw [List.getElem?_eq_getElem (show i < xs.length by omega)] at e
    exact ⟨_,by simpa using e⟩)
  rw [List.drop_zero,List.take_of_length_le (by omega)] at this
  exact this
theorem opens_iso {α β:Type} {P:Program} {t:TypeId} {d:Kd α} {ok:α→Prop} (f:β→α) (g:α→β) (hfg:∀ a,f (g a)=a) (h:Opens P t d ok):Opens P t (Kd.iso d f) (fun x=>ok (f x)):=by
  intro H enc w base spare held fuel cs x hx
  obtain ⟨a,ha,ho⟩:=h H enc w base spare held fuel cs x hx
  exact ⟨g a,by show d.K w (f (g a)) cs;rw [hfg];exact ha,by show ok (f (g a));rw [hfg];exact ho⟩
theorem agg_of_cells {P:Program} {w:World} {r:Reach} {base:Nat} {t:TypeId} {fs:Array Field} {v:Value} {cs:List Value} (hu:P.underlying t=some (.struct fs)) (hv:Value.okWide P w r base t v) (hc:v.cells.toList=cs):v = .agg cs.toArray:=by
  obtain ⟨c,rfl,_⟩:=okWide_struct hu hv
  simp only [Value.cells] at hc
  subst hc
  simp
end Go.Proofs.Ytlpfmhikahlcoaa.Open
namespace Go.Proofs.Ytlpfmhikahlcoaa.fnExactMachineStep
open Go.ChangeShapes Go.WideShapes Go.ChangeAt Go.RowKit Go.Proofs.Ytlpfmhikahlcoaa.Open Go.Proofs.Ytlpfmhikahlcoaa.G Go.Proofs.YtlpfmhikahlcoaaW.PrintWords
open Go.ChangeMaps (open_string shut_string)
set_option linter.unusedVariables false
theorem own:ownKnob Try.prog.godebug=none:=by kernel_rfl
theorem laidOut:laidOutB Try.prog=true:=by kernel_rfl
set_option maxRecDepth 100000 in
theorem lifted (os:Os) (started:os.Started) (H:Type) (enc:TypeId × Value→H) :
    ReturnsInHanded {} Try.checked os 9 .any (Rows.fnExactMachineStepSpec.pre6 enc Try.prog Try.f9 Rows.fnExactMachineStepRow.domain false) (Rows.fnExactMachineStepSpec.post enc Try.prog Try.f9 false true false false):=by
  refine returnsInHanded_of_change (C:=Try.checked) own started (by kernel_rfl) Try.func9
    (ChangeSpec.witness6 (enc:=enc) (C:=Try.checked) false ⟨#[],#[.agg #[.slice none 0 0,.int .i64 0,.string ByteArray.empty,.int .i64 0,.slice none 0 0,.int .i64 0,.bool false,.int .i64 0,.int .i64 0,.int .i64 0,.slice none 0 0]],[]⟩ 8 (by kernel_rfl) (by kernel_rfl) (by kernel_rfl) (by kernel_rfl)) ?_
  intro W base args ds gs before hval0 hW hcnd _
  have hval:∀ (j:Nat) t v,Try.f9.params[j]? = some t→args[j]? = some v→Value.okWide Try.prog W .any base t v:=hval0
  have hW':=hW
  obtain ⟨p,q,hA0,hV,rfl,hfz,hnd⟩:=hW
  have hA:DataW.TrodAll enc Try.prog W 0 (fun _=>true) true Try.f9.params.toList args.toList ds p:=hA0
  rw [Try.params9] at hA hval
  obtain ⟨v0,vs0,d0,ds0,p0,q0,hargs,rfl,rfl,h0,r0⟩:=trodAll_cons hA
  obtain ⟨rfl,rfl,rfl⟩:=trodAll_nil r0
  obtain rfl:args=#[v0]:=by cases args;simp_all
  obtain ⟨rfl,rfl⟩:=trodVars_none hV
  have k0:=h0
  have lt0:∀ x∈p0,x.block < W.heap.size:=by obtain ⟨m,hm⟩:=k0;exact DataW.trod_lt m _ _ _ hm
  obtain ⟨fu0,hf0⟩:=h0
  obtain ⟨⟨l0_0,⟨a0_1,a0_2⟩,a0_3,l0_4,a0_5,a0_6,a0_7,a0_8,a0_9,l0_10⟩,hk0,ok0⟩:=(opens_struct Try.underlying45 (by kernel_rfl) (fopens_cons rfl (by kernel_rfl) (opens_slice (d:=Kd.bool) Try.underlying22 (by kernel_rfl) (opens_bool Try.underlying4)) (fopens_cons rfl (by kernel_rfl) (opens_struct Try.underlying24 (by kernel_rfl) (fopens_cons rfl (by kernel_rfl) (opens_int Try.underlying3) (fopens_one rfl (by kernel_rfl) (opens_string Try.underlying9)))) (fopens_cons rfl (by kernel_rfl) (opens_int Try.underlying3) (fopens_cons rfl (by kernel_rfl) (opens_slice (d:=(Kd.int .i64)) Try.underlying33 (by kernel_rfl) (opens_int Try.underlying3)) (fopens_cons rfl (by kernel_rfl) (opens_int Try.underlying3) (fopens_cons rfl (by kernel_rfl) (opens_bool Try.underlying4) (fopens_cons rfl (by kernel_rfl) (opens_int Try.underlying3) (fopens_cons rfl (by kernel_rfl) (opens_int Try.underlying3) (fopens_cons rfl (by kernel_rfl) (opens_int Try.underlying3) (fopens_one rfl (by kernel_rfl) (opens_slice (d:=k130) Try.underlying43 (by kernel_rfl) (show Opens Try.prog 130 k130 _ from opens_iso _ (fun y=>⟨y.1,y.2⟩) (fun _=>rfl) (opens_struct Try.underlying130 (by kernel_rfl) (fopens_cons rfl (by kernel_rfl) (opens_string Try.underlying9) (fopens_one rfl (by kernel_rfl) (opens_int Try.underlying3))))))))))))))))) _ enc W 0 _ true fu0 _ _ hf0
  generalize hcs0:v0.cells.toList=cs0 at hk0
  obtain ⟨_,_,rfl,⟨A0_0,c0_0,rfl,hc0_0,hr0_0⟩,⟨_,_,rfl,⟨_,_,rfl,rfl,rfl⟩,⟨_,_,rfl,rfl,⟨_,_,rfl,⟨A0_4,c0_4,rfl,hc0_4,hr0_4⟩,⟨_,_,rfl,rfl,⟨_,_,rfl,rfl,⟨_,_,rfl,rfl,⟨_,_,rfl,rfl,⟨_,_,rfl,rfl,⟨A0_10,c0_10,rfl,hc0_10,hr0_10⟩⟩⟩⟩⟩⟩⟩⟩⟩⟩:=hk0
  obtain rfl:=agg_of_cells Try.underlying45 (hval 0 45 v0 rfl rfl) hcs0
  clear hA0 hval0
  obtain ⟨k,hk⟩:=Pure.FnExactMachineStep_pure l0_0 a0_1 a0_2 a0_3 l0_4 a0_5 a0_6 a0_7 a0_8 a0_9 l0_10 ok0
  refine (laws_FnExactMachineStep.calls k _ _ l0_0 a0_1 a0_2 a0_3 _ _ l0_4 a0_5 a0_6 a0_7 a0_8 a0_9 _ _ l0_10 true W hr0_0 hc0_0 hr0_4 hc0_4 hr0_10 hc0_10 rfl hk).mono fun e W' ⟨he,bel0⟩=>?_
  have bel:Below W.heap.size W W':=bel0
  subst he
  exact ⟨_,rfl,_,_,_,[],_,[],hW',trodAll_mk1 (shut_bool Try.underlying4 _),(trodAll_cons_mk (Below.trod laidOut (by kernel_rfl) (of_decide_eq_true (by kernel_rfl)) k0 bel lt0) trodAll_mk0),rfl,bel.frame _,fun h=>by cases h⟩
theorem over:Rows.fnExactMachineStepRow.holds Try.pinned (OpenSpec.ofChange Rows.fnExactMachineStepSpec) :=
  OpenClaim.holds_of_wide 9 Try.f9 rfl rfl rfl rfl rfl rfl rfl ⟨rfl,rfl,rfl,rfl,rfl⟩ rfl rfl rfl rfl rfl (by kernel_rfl) Try.func9 (by kernel_rfl)
    (of_decide_eq_true (by kernel_rfl)) (by unfold Func.isWrapper;first|(rw [if_pos (by decide +kernel)];kernel_rfl)|(rw [if_neg (by decide +kernel)];exact ⟨rfl,rfl⟩))
    (fun os started H enc _=>lifted os started H enc)
theorem proved:Rows.FnExactMachineStepSaid:=over
end Go.Proofs.Ytlpfmhikahlcoaa.fnExactMachineStep
namespace Go.Proofs.Ytlpfmhikahlcoaa
/-- The given statement. -/
theorem fnExactMachineStep_holds:Rows.FnExactMachineStepSaid:=fnExactMachineStep.proved
#print axioms fnExactMachineStep_holds
end Go.Proofs.Ytlpfmhikahlcoaa
