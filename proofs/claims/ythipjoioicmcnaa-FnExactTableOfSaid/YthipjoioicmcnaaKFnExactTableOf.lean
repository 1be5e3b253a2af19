-- texts of this session, merged by a program of it (wip/gen/pack.py)
import Derived.Test.YthipjoioicmcnaaRows
import Derived.Test.YthipjoioicmcnaaKFnExactTableOf12
import Derived.Test.YthipjoioicmcnaaKFnExactTableOf13
import Derived.WalkKit
import Derived.ProofKit
import Derived.OpenShut
import Derived.ShutString
import Derived.ChangeOld
import Derived.Below
namespace Go.Proofs.Ythipjoioicmcnaa.fnExactTableOf
open Go.ChangeShapes Go.WideShapes Go.ChangeAt Go.RowKit Go.Proofs.Ythipjoioicmcnaa.Open Go.Proofs.Ythipjoioicmcnaa.G Go.Proofs.YthipjoioicmcnaaW.PrintWords
open Go.ChangeMaps (open_string shut_string)
set_option linter.unusedVariables false
theorem own:ownKnob Try.prog.godebug=none:=by kernel_rfl
theorem laidOut:laidOutB Try.prog=true:=by kernel_rfl
set_option maxRecDepth 100000 in
theorem lifted (os:Os) (started:os.Started) (H:Type) (enc:TypeId × Value→H) :
  ReturnsInHanded {} Try.checked os 7 .any (Rows.fnExactTableOfSpec.pre6 enc Try.prog Try.f7 Rows.fnExactTableOfRow.domain false) (Rows.fnExactTableOfSpec.post enc Try.prog Try.f7 false true false false):=by
 refine returnsInHanded_of_change (C:=Try.checked) own started (by kernel_rfl) Try.func7
  (ChangeSpec.witness6 (enc:=enc) (C:=Try.checked) false ⟨#[],#[.slice none 0 0,.slice none 0 0],[]⟩ 8 (by kernel_rfl) (by kernel_rfl) (by kernel_rfl) (by kernel_rfl)) ?_
 intro W base args ds gs before hval0 hW hcnd _
 have hval:∀ (j:Nat) t v,Try.f7.params[j]? = some t→args[j]? = some v→Value.okWide Try.prog W .any base t v:=hval0
 have hW':=hW
 obtain ⟨p,q,hA0,hV,rfl,hfz,hnd⟩:=hW
 have hA:DataW.TrodAll enc Try.prog W 0 (fun _=>true) true Try.f7.params.toList args.toList ds p:=hA0
 rw [Try.params7] at hA hval
 obtain ⟨v0,vs0,d0,ds0,p0,q0,hargs,rfl,rfl,h0,r0⟩:=trodAll_cons hA
 obtain ⟨v1,vs1,d1,ds1,p1,q1,rfl,rfl,rfl,h1,r1⟩:=trodAll_cons r0
 obtain ⟨rfl,rfl,rfl⟩:=trodAll_nil r1
 obtain rfl:args=#[v0,v1]:=by cases args;simp_all
 obtain ⟨rfl,rfl⟩:=trodVars_none hV
 have k0:=h0
 have lt0:∀ x∈p0,x.block < W.heap.size:=by obtain ⟨m,hm⟩:=k0;exact DataW.trod_lt m _ _ _ hm
 obtain ⟨fu0,hf0⟩:=h0
 obtain ⟨a0,len0,cap0,rfl⟩:=okWide_slice Try.underlying47 (hval 0 47 v0 rfl rfl)
 obtain ⟨l0,hk0,ok0⟩:=(opens_slice (d:=k97) Try.underlying47 (by kernel_rfl) (show Opens Try.prog 97 k97 _ from opens_iso _ (fun y=>⟨y.1,y.2.1,y.2.2⟩) (fun _=>rfl) (opens_struct Try.underlying97 (by kernel_rfl) (fopens_cons rfl (by kernel_rfl) (opens_bool Try.underlying4) (fopens_cons rfl (by kernel_rfl) (opens_int Try.underlying3) (fopens_one rfl (by kernel_rfl) (opens_int Try.underlying3))))))) _ enc W 0 _ true fu0 _ _ hf0
 obtain ⟨A0,c0,hcs0,hc0,hr0⟩:=hk0
 simp [Value.cells] at hcs0
 obtain ⟨rfl,rfl,rfl⟩:=hcs0
 have k1:=h1
 have lt1:∀ x∈p1,x.block < W.heap.size:=by obtain ⟨m,hm⟩:=k1;exact DataW.trod_lt m _ _ _ hm
 obtain ⟨fu1,hf1⟩:=h1
 obtain ⟨a1,len1,cap1,rfl⟩:=okWide_slice Try.underlying48 (hval 1 48 v1 rfl rfl)
 obtain ⟨l1,hk1,ok1⟩:=(opens_slice (d:=k101) Try.underlying48 (by kernel_rfl) (show Opens Try.prog 101 k101 _ from opens_iso _ (fun y=>⟨y.1,y.2.1,y.2.2.1,y.2.2.2.1,y.2.2.2.2.1,y.2.2.2.2.2⟩) (fun _=>rfl) (opens_struct Try.underlying101 (by kernel_rfl) (fopens_cons rfl (by kernel_rfl) (opens_int Try.underlying3) (fopens_cons rfl (by kernel_rfl) (opens_int Try.underlying3) (fopens_cons rfl (by kernel_rfl) (opens_int Try.underlying3) (fopens_cons rfl (by kernel_rfl) (opens_int Try.underlying3) (fopens_cons rfl (by kernel_rfl) (opens_int Try.underlying3) (fopens_one rfl (by kernel_rfl) (opens_int Try.underlying3)))))))))) _ enc W 0 _ true fu1 _ _ hf1
 obtain ⟨A1,c1,hcs1,hc1,hr1⟩:=hk1
 simp [Value.cells] at hcs1
 obtain ⟨rfl,rfl,rfl⟩:=hcs1
 clear hA0 hval0
 obtain ⟨k,hk⟩:=Pure.FnExactTableOf_pure l0 l1 ok0 ok1
 refine (laws_FnExactTableOf.calls k _ _ l0 _ _ l1 true W hr0 hc0 hr1 hc1 rfl hk).mono fun e W' ⟨he,bel0⟩=>?_
 have bel:Below W.heap.size W W':=bel0
 subst he
 exact ⟨_,rfl,_,_,_,[],_,[],hW',trodAll_mk1 (shut_bool Try.underlying4 _),(trodAll_cons_mk (Below.trod laidOut (by kernel_rfl) (of_decide_eq_true (by kernel_rfl)) k0 bel lt0) (trodAll_cons_mk (Below.trod laidOut (by kernel_rfl) (of_decide_eq_true (by kernel_rfl)) k1 bel lt1) trodAll_mk0)),rfl,bel.frame _,fun h=>by cases h⟩
theorem over:Rows.fnExactTableOfRow.holds Try.pinned (OpenSpec.ofChange Rows.fnExactTableOfSpec) :=
 OpenClaim.holds_of_wide 7 Try.f7 rfl rfl rfl rfl rfl rfl rfl ⟨rfl,rfl,rfl,rfl,rfl⟩ rfl rfl rfl rfl rfl (by kernel_rfl) Try.func7 (by kernel_rfl)
  (of_decide_eq_true (by kernel_rfl)) (by unfold Func.isWrapper;first|(rw [if_pos (by decide +kernel)];kernel_rfl)|(rw [if_neg (by decide +kernel)];exact ⟨rfl,rfl⟩))
  (fun os started H enc _=>lifted os started H enc)
theorem proved:Rows.FnExactTableOfSaid:=over
end Go.Proofs.Ythipjoioicmcnaa.fnExactTableOf
namespace Go.Proofs.Ythipjoioicmcnaa
/-- The given statement. -/
theorem fnExactTableOf_holds:Rows.FnExactTableOfSaid:=fnExactTableOf.proved
#print axioms fnExactTableOf_holds
end Go.Proofs.Ythipjoioicmcnaa
