-- texts of this session, merged by a program of it (wip/gen/pack.py)
import Derived.Maps.OwnOps
import Derived.Maps.OwnSet
import Derived.Maps.Views
import Derived.DeepKeys4
import Derived.StringKeys
import Derived.Deep.Draws
import Derived.Below
import Derived.RowKit
import Derived.Test.YtlpfmhikahlcoaaKFnExactMachineStep2
set_option linter.unusedSimpArgs false
set_option linter.unusedVariables false
namespace Go.Proofs.Ytlpfmhikahlcoaa.Mp
open Go.RowKit Go.Maps Go.ChangeMaps
set_option linter.unusedSectionVars false
section
variable {κ:Type} [DecidableEq κ]
def mget:List (κ × Int)→κ→Int
  | [],_=>0
  | p :: r,x=>if p.1=x then p.2 else mget r x
end
section
variable {P:Program} {k e t:TypeId} {κ:Type} [DecidableEq κ]
structure Codec (P:Program) (k:TypeId) (enc:κ→Value) (ok:κ→Prop):Prop where
  keyed:Keyed P k
  some_:∀ x,ok x→(keyOf P k (enc x)).isSome=true
  inj:∀ x y,enc x=enc y→x=y
variable {enc:κ→Value} {ok:κ→Prop}
def litOf (P:Program) (k:TypeId) (enc:κ→Value) (x:κ):Lit:=(keyOf P k (enc x)).getD (.bool false)
theorem Codec.key (C:Codec P k enc ok) {x:κ} (h:ok x):keyOf P k (enc x)=some (litOf P k enc x):=by
  have:=C.some_ x h
  unfold litOf
  cases h':keyOf P k (enc x) with
  | none=>rw [h'] at this;cases this
  | some l=>rfl
theorem Codec.ne (C:Codec P k enc ok) {x y:κ} (hx:ok x) (hy:ok y) (h:x≠y):litOf P k enc x≠litOf P k enc y:=fun he =>
  h (C.inj _ _ (C.keyed.inj (C.key hx) (he ▸ C.key hy)))
def datum (P:Program) (k:TypeId) (enc:κ→Value):List (κ × Int)→DataW Unit
  | [] => .map []
  | p :: r=>(datum P k enc r).put (litOf P k enc p.1) (.lit (.int .i64 p.2))
theorem datum_isMap:∀ m:List (κ × Int),Maps.IsMap (datum P k enc m)
  | []=>Maps.isMap_empty
  | p :: r=>(datum_isMap r).put _ _
theorem datum_at (C:Codec P k enc ok) {x:κ} (hx:ok x):∀ m:List (κ × Int),(∀ p∈m,ok p.1)→(datum P k enc m).atKey (litOf P k enc x) (.lit (.int .i64 0)) = .lit (.int .i64 (mget m x)):=by
  intro m
  induction m with
  | nil=>intro _;rfl
  | cons p r ih =>
    intro h
    have hp:=h p (by simp)
    unfold datum mget
    by_cases he:p.1=x
    · rw [if_pos he,he]
      exact Maps.atKey_put_same (datum_isMap r) (C.keyed.key (C.key hx)) _ _
    · rw [if_neg he,Maps.atKey_put_other (C.ne hx hp (fun h=>he h.symm))]
      exact ih fun q hq=>h q (by simp [hq])
structure IsMp (P:Program) (k e:TypeId) (enc:κ→Value) (ok:κ→Prop) (w:World) (b:Nat) (m:List (κ × Int)):Prop where
  own:w.ownsMap P k (plainElem P e) b m.length (datum P k enc m)
  oks:∀ p∈m,ok p.1
variable {w:World} {b:Nat} {m:List (κ × Int)}
theorem IsMp.made (P:Program) (k e:TypeId) (enc:κ→Value) (ok:κ→Prop) (w:World):IsMp P k e enc ok (w.alloc (.map #[] 0)) w.heap.size ([]:List (κ × Int)) :=
  ⟨World.ownsMap_made _ _ _ _,fun p hp=>by cases hp⟩
theorem IsMp.kept {w':World} {row:Option Nat} (h:IsMp P k e enc ok w b m) (hg:w.grownBy w' row) (hne:some b≠row):IsMp P k e enc ok w' b m:=⟨h.own.kept hg hne,h.oks⟩
theorem IsMp.alloc (h:IsMp P k e enc ok w b m) (o:Obj):IsMp P k e enc ok (w.alloc o) b m:=⟨h.own.alloc o,h.oks⟩
theorem IsMp.drew (h:IsMp P k e enc ok w b m):IsMp P k e enc ok w.drew b m:=⟨h.own.drew,h.oks⟩
theorem IsMp.block {w':World} (h:IsMp P k e enc ok w b m) (hb:w'.heap[b]? = w.heap[b]?):IsMp P k e enc ok w' b m:=by
  obtain ⟨⟨es,clock,h1,h2⟩,h3⟩:=h
  exact ⟨⟨es,clock,hb.trans h1,h2⟩,h3⟩
theorem IsMp.drewN (h:IsMp P k e enc ok w b m) (n:Nat):IsMp P k e enc ok (w.drewN n) b m:=h.block rfl
theorem IsMp.below {w':World} {B:Nat} (h:IsMp P k e enc ok w b m) (hb:Below B w w') (hB:b < B):IsMp P k e enc ok w' b m:=h.block (hb.block b hB)
theorem IsMp.setCell (h:IsMp P k e enc ok w b m) {p:Addr} (hne:b≠p.block) (u:Value):IsMp P k e enc ok (w.setCell p u) b m :=
  h.block (heap_setCell_other w p b u hne)
theorem IsMp.ne (h:IsMp P k e enc ok w b m) {g:Nat} {cs:Array Value} {T:TypeId} {fr:Nat × Nat} (hg:w.heap[g]? = some (.cells cs T fr)):b≠g:=by
  obtain ⟨⟨es,clock,h1,_⟩,_⟩:=h
  rintro rfl
  rw [h1] at hg
  injection hg with hg
  cases hg
variable {ops:Array Oper} {rest:List Oper} {o:Oper} {a:Act} {Q:Exit→Act→World→Prop}
theorem wpList_mkmap (hg:o.guard=none) (hop:o.op=Op.makeMap t none) (k e:TypeId) (enc:κ→Value) (ok:κ→Prop)
    (hK:∀ mb w',mb=w.heap.size→IsMp P k e enc ok w' mb ([]:List (κ × Int))→Below w.heap.size w w'→wpList P ops Q rest (a.put o.dst (.map (some mb))) w'):wpList P ops Q (o :: rest) a w:=by
  refine wpList_plain hg fun K hK'=>?_
  unfold Oper.wp
  simp [execOp,hop,run_makeMap,Result.andThen]
  exact hK' _ _ (hK _ _ rfl (IsMp.made P k e enc ok w) ((Below.refl _ _).alloc (Nat.le_refl _) _))
theorem wpList_mget (hg:o.guard=none) (mo x:Operand) (hop:o.op=Op.lookup t mo x false) (C:Codec P k enc ok) (ht:P.underlying t=some (.map k e)) (he:P.underlying e=some (.int .i64))
    (hz:∀ w,(zeroValue e).run P w = .ok (.int .i64 0) w) (h:IsMp P k e enc ok w b m) (hm:a.eval mo = .map (some b)) (key:κ) (hx:a.eval x=enc key) (hk:ok key)
    (hK:wpList P ops Q rest (a.put o.dst (.int .i64 (mget m key))) w):wpList P ops Q (o :: rest) a w:=by
  refine wpList_lookup_own_int w hg mo x t hop k e .i64 C.keyed ht he (hz w) b m.length _ hm h.own _ _ hx (C.key hk) fun c hat _=>?_
  have:=(datum_at C hk m h.oks).symm.trans hat
  injection this with this
  injection this with _ this
  rw [← this]
  exact hK
theorem wpList_mput (hg:o.guard=none) (mo x v:Operand) (hop:o.op=Op.mapUpdate t mo x v) (C:Codec P k enc ok) (ht:P.underlying t=some (.map k e)) (he:P.underlying e=some (.int .i64))
    (h:IsMp P k e enc ok w b m) (hm:a.eval mo = .map (some b)) (key:κ) (hx:a.eval x=enc key) (hk:ok key) (n:Int) (hv:a.eval v = .int .i64 n) (hn:(Lit.int .i64 n).wf=true) (hl:m.length < maxLen)
    (hK:∀ w',IsMp P k e enc ok w' b ((key,n) :: m)→w.grownBy w' (some b)→wpList P ops Q rest (a.put o.dst undef) w'):wpList P ops Q (o :: rest) a w:=by
  refine wpList_mapUpdate_own w hg mo x v t hop k e C.keyed ht (plainElem P e) b m.length _ hm h.own hl _ _ _ hx hv (C.key hk) _ [] (plainElem_int he hn) fun w' h1 hg=>hK w' ⟨h1,fun p hp=>?_⟩ hg
  rcases List.mem_cons.1 hp with rfl|hp
  · exact hk
  · exact h.oks p hp
end
end Go.Proofs.Ytlpfmhikahlcoaa.Mp
namespace Go.Proofs.Ytlpfmhikahlcoaa.G
open Go.Proofs.Ytlpfmhikahlcoaa.Sh
open Go.RowKit Go.Proofs.YtlpfmhikahlcoaaW.PrintWords Go.Proofs.YtlpfmhikahlcoaaW.PrintLast Go.Proofs.YtlpfmhikahlcoaaW.PrintMore
attribute [local go_sem] max2_int min2_int max_two min_two max_three min_three max_four min_four
set_option linter.unusedVariables false
set_option linter.unusedSimpArgs false
def impl_within.f (a0:Int) (a1:Int) (a2:Int):Option (Bool):=if a0 ≥ a1 then (some (decide (a0≤a2))) else (some false)
set_option maxHeartbeats 8000000 in
set_option maxRecDepth 100000 in
theorem impl_within.calls (a0:Int) (a1:Int) (a2:Int) (r:Bool) (w:World) (h:impl_within.f a0 a1 a2=some r) :
    Calls Try.prog 64 #[.int .i64 a0,.int .i64 a1,.int .i64 a2] w fun e w'=>e = .returned (.bool r)∧Drawn0 w w':=by
  have H:(if a0 ≥ a1 then (some (decide (a0≤a2))) else (some false))=some r:=h
  clear h
  by_cases c4:a0 ≥ a1
  · rw [if_pos c4] at H
    have c4b0:decide (a1≤a0)=true:=decide_eq_true c4
    clear c4
    obtain rfl:=Option.some.inj H
    go_enter Try.func64,Try.ntmps64
    go_wp2
    go_ret
    exact ⟨by first|rfl|(simp;done)|(simp [*];done),by repeat (first|exact Drawn0.refl _|apply Drawn0.step)⟩
  · rw [if_neg c4] at H
    have c4b0:decide (a1≤a0)=false:=decide_eq_false c4
    clear c4
    obtain rfl:=Option.some.inj H
    go_enter Try.func64,Try.ntmps64
    go_wp2
    go_ret
    exact ⟨by first|rfl|(simp;done)|(simp [*];done),by repeat (first|exact Drawn0.refl _|apply Drawn0.step)⟩
def impl_isCount.f (a0:Int):Option (Bool):=(impl_within.f a0 0 1000000000).bind fun A0=>(some A0)
set_option maxHeartbeats 8000000 in
set_option maxRecDepth 100000 in
theorem impl_isCount.calls (a0:Int) (r:Bool) (w:World) (h:impl_isCount.f a0=some r) :
    Calls Try.prog 78 #[.int .i64 a0] w fun e w'=>e = .returned (.bool r)∧Drawn0 w w':=by
  have H:((impl_within.f a0 0 1000000000).bind fun A0=>(some A0))=some r:=h
  clear h
  replace H:=Option.bind_eq_some_iff.mp H
  obtain ⟨A0,A20,H⟩:=H
  replace H:(some A0)=some r:=H
  have A2:=Aside0.mk A20
  clear A20
  obtain rfl:=Option.some.inj H
  go_enter Try.func78,Try.ntmps78
  go_wp2_with (first|((with_reducible refine gate_callee (f:=64) rfl ?_);refine goesL_ (some 4) rfl rfl Try.func64 (by kernel_rfl) rfl #[.int .i64 a0,.int .i64 0,.int .i64 1000000000] rfl ml ?_;(with_reducible refine (impl_within.calls a0 0 1000000000 A0 _ A2.out).mono ?_);rintro e w' ⟨rfl,⟨nd,rfl⟩⟩;refine ⟨_,rfl,?_⟩))
  go_ret
  exact ⟨by first|rfl|(simp;done)|(simp [*];done),by repeat (first|exact Drawn0.refl _|apply Drawn0.step)⟩
end Go.Proofs.Ytlpfmhikahlcoaa.G
namespace Go.Proofs.Ytlpfmhikahlcoaa.G
open Go.Proofs.Ytlpfmhikahlcoaa.Sh Go.RowKit Go.Proofs.YtlpfmhikahlcoaaW.PrintWords Go.Proofs.YtlpfmhikahlcoaaW.PrintLast Go.Proofs.YtlpfmhikahlcoaaW.PrintMore
attribute [local go_sem] max2_int min2_int max_two min_two max_three min_three max_four min_four
set_option linter.unusedVariables false
set_option linter.unusedSimpArgs false
mutual
def impl_TableOk.j0:Nat→Bool→Int→ByteArray→Option (Bool)
  | 0,_,_,_=>none
  | k + 1,x17,x102000,x102001=>if x17=true then (some false) else (impl_TableOk.l0 k (x102001.size:Int) 0 x102000 x102001)
def impl_TableOk.l0:Nat→Int→Int→Int→ByteArray→Option (Bool)
  | 0,_,_,_,_=>none
  | k + 1,x20,x21,x102000,x102001=>if x21 < x20 then (if 0≤x21 then (if x21 < (x102001.size:Int) then (if (bt x102001 x21)=48 then (impl_TableOk.l0 k x20 (wrap64 (x21 + 1)) x102000 x102001) else (if (bt x102001 x21)=49 then (impl_TableOk.l0 k x20 (wrap64 (x21 + 1)) x102000 x102001) else (some false))) else (none)) else (none)) else (some true)
end
def impl_TableOk.f (k:Nat) (A2:Int) (A1:ByteArray):Option (Bool):=(impl_within.f A2 0 12).bind fun A6=>(if A6=true then (if 0≤(IntKind.u64.wrap (A2)) then (impl_TableOk.j0 k ((A1.size:Int) != (shl .i64 1 (IntKind.u64.wrap (A2)))) A2 A1) else (none)) else (impl_TableOk.j0 k true A2 A1))
set_option maxHeartbeats 80000000 in
set_option maxRecDepth 100000 in
theorem impl_TableOk.calls (k:Nat) (A2:Int) (A1:ByteArray) (r:Bool) (w:World) (h:impl_TableOk.f k A2 A1=some r) :
  Calls Try.prog 106 #[.agg #[.int .i64 A2,.string A1]] w fun e w'=>e = .returned (.bool r)∧Below w.heap.size w w':=by
 have hu29:=Try.underlying29;have HB:=Aside0.mk (Below.refl w.heap.size w)
 have H:((impl_within.f A2 0 12).bind fun A6=>(if A6=true then (if 0≤(IntKind.u64.wrap (A2)) then (impl_TableOk.j0 k ((A1.size:Int) != (shl .i64 1 (IntKind.u64.wrap (A2)))) A2 A1) else (none)) else (impl_TableOk.j0 k true A2 A1)))=some r:=h
 clear h;have HC2:=Aside0.mk H;clear H
 go_enter Try.func106,Try.ntmps106
 go_upto_region 1 with (first|((with_reducible refine gate_dst (N:=1) rfl ?_);(try (refine gate_guard (by rfl) ?_;dsimp only));refine bx (N:=1) (cs:=#[.int .i64 A2,.string A1]) (t:=29) ?_;intro A7 hg w3 hbox hb;have A3:=Aside0.mk (hbox);have GW101:=bz0 hg HB;have GE101:=bz0 hg HB;replace HB:=bs0 HB hb;clear hb hbox hg))
 (try simp only [Act.put,List.setIfInBounds_toArray,List.set_cons_zero,List.set_cons_succ])
 go_cut [17] (fun v17 wc=>∃ (kq:Nat) (A5:Bool),v17 = .bool A5∧Aside0 (impl_TableOk.j0 kq A5 A2 A1=some r)∧Aside0 (kq≤k)∧Aside0 (wc.heap[A7]? = some (.cells #[.int .i64 A2,.string A1] 29 (0,0)))∧Aside0 (Below w.heap.size w wc))
 case first =>
  have H:=HC2.out;clear HC2
  replace H:=Option.bind_eq_some_iff.mp H
  obtain ⟨A6,A40,H⟩:=H
  replace H:(if A6=true then (if 0≤(IntKind.u64.wrap (A2)) then (impl_TableOk.j0 k ((A1.size:Int) != (shl .i64 1 (IntKind.u64.wrap (A2)))) A2 A1) else (none)) else (impl_TableOk.j0 k true A2 A1))=some r:=H
  have A4:=Aside0.mk A40;clear A40
  by_cases c5:A6=true
  ·subst c5
   have H1:(if 0≤(IntKind.u64.wrap (A2)) then (impl_TableOk.j0 k ((A1.size:Int) != (shl .i64 1 (IntKind.u64.wrap (A2)))) A2 A1) else (none))=some r:=by rw [if_pos rfl] at H;exact H
   clear H;have H:=H1;clear H1
   obtain ⟨ji6,hji6⟩:∃ j_:Int,(IntKind.u64.wrap (A2))=j_:=⟨_,rfl⟩
   replace H:(if 0≤(ji6) then (impl_TableOk.j0 k ((A1.size:Int) != (shl .i64 1 (ji6))) A2 A1) else (none))=some r:=by first|(rw [hji6] at H;exact H)|(simp only [hji6] at H ⊢;exact H)
   (try rw [hji6] at A4)
   by_cases c7:0≤(ji6)
   ·rw [if_pos c7] at H
    have c7b0:=eq_true c7;have c7b1:decide (0≤(ji6))=true:=decide_eq_true c7;clear c7
    obtain ⟨ji8,hji8⟩:∃ j_:Int,(shl .i64 1 (ji6))=j_:=⟨_,rfl⟩
    replace H:(impl_TableOk.j0 k ((A1.size:Int) != (ji8)) A2 A1)=some r:=by first|(rw [hji8] at H;exact H)|(simp only [hji8] at H ⊢;exact H)
    (try rw [hji8] at A4)
    have hji8_:(IntKind.i64.wrap (1 * 2 ^ min (ji6).toNat 64))=ji8:=hji8;have hji8z:(ji6)≤64→(IntKind.i64.wrap (1 * 2 ^ (ji6).toNat))=ji8:=shl_small hji8
    have hji8u:(IntKind.i64.wrap (2 ^ min (ji6).toNat 64))=ji8:=by have h_:=hji8_;rw [Int.one_mul] at h_;exact h_
    have hji8v:(ji6)≤64→(IntKind.i64.wrap (2 ^ (ji6).toNat))=ji8:=fun hle_=>by have h_:=hji8z hle_;rw [Int.one_mul] at h_;exact h_
    have hji8y:(wrap64 (1 * 2 ^ min (ji6).toNat 64))=ji8:=(i64_w _).symm.trans hji8_
    have hji8x:(ji6)≤64→(wrap64 (1 * 2 ^ (ji6).toNat))=ji8:=fun h_=>(i64_w _).symm.trans (hji8z h_)
    have H':=Aside0.mk H
    clear H;have hcz9__:=c2_ A3;have hfz9__:=f_ A3
    go_wp2_with (first|((with_reducible refine gate_callee (f:=64) rfl ?_);refine goesL_ (some 6) rfl rfl Try.func64 (by kernel_rfl) rfl #[.int .i64 A2,.int .i64 0,.int .i64 12] rfl ml ?_;(with_reducible refine (impl_within.calls A2 0 12 true _ A4.out).mono ?_);rintro e w' ⟨rfl,⟨nd,rfl⟩⟩;refine ⟨_,rfl,?_⟩))
    go_meet
    case rel=>exact ⟨_,(((A1.size:Int) != (ji8))),(by first|rfl|(simp;done)|(simp only [← hji8] <;> (first|rfl|simp))|(simp [*];done)),(by first|exact H'|(rw [hji8];exact H')),⟨by first|omega|exact Nat.le_refl _⟩,⟨dr A3⟩,⟨by exact tb HB⟩⟩
   ·rw [if_neg c7] at H
    exact absurd H (by simp)
  ·replace c5:=Bool.eq_false_iff.mpr c5
   subst c5
   have H1:(impl_TableOk.j0 k true A2 A1)=some r:=by rw [if_neg (show ¬ (false=true) by decide)] at H;exact H
   clear H;have H:=H1;clear H1
   have H':=Aside0.mk H
   clear H;have hcz10__:=c2_ A3;have hfz10__:=f_ A3
   go_wp2_with (first|((with_reducible refine gate_callee (f:=64) rfl ?_);refine goesL_ (some 6) rfl rfl Try.func64 (by kernel_rfl) rfl #[.int .i64 A2,.int .i64 0,.int .i64 12] rfl ml ?_;(with_reducible refine (impl_within.calls A2 0 12 false _ A4.out).mono ?_);rintro e w' ⟨rfl,⟨nd,rfl⟩⟩;refine ⟨_,rfl,?_⟩))
   go_meet
   case rel=>exact ⟨_,(true),(by first|rfl|(simp;done)|(simp [*];done)),(by first|exact H'|(rw [hji8];exact H')),⟨by first|omega|exact Nat.le_refl _⟩,⟨dr A3⟩,⟨by exact tb HB⟩⟩
 case rest =>
  clear HC2
  (try clear c1);(try clear p2);(try clear c5);(try clear c6);(try clear p6);(try clear c7);(try clear c7b0);(try clear c7b1);(try clear c10);(try clear hcz10__);(try clear hcz9__);(try clear hfz10__);(try clear hfz9__)
  obtain ⟨kq,A5,rfl,HA,HJ1,A3,HB⟩:=hcut
  cases kq with
    | zero=>exact absurd HA.out (by simp [impl_TableOk.j0])
    | succ kj1 =>
   have H:=HA.out;clear HA
   simp only [impl_TableOk.j0] at H
   by_cases c11:A5=true
   ·subst c11
    have H1:(some false)=some r:=by rw [if_pos rfl] at H;exact H
    clear H;have H:=H1;clear H1
    obtain rfl:=Option.some.inj H
    go_wp2
    go_ret
    exact ⟨er,tb HB⟩
   ·replace c11:=Bool.eq_false_iff.mpr c11
    subst c11
    have H1:(impl_TableOk.l0 kj1 (A1.size:Int) 0 A2 A1)=some r:=by rw [if_neg (show ¬ (false=true) by decide)] at H;exact H
    clear H;have H:=H1;clear H1
    have H':=Aside0.mk H
    clear H;have hcz12__:=c2_ A3;have hfz12__:=f_ A3
    go_wp2
    go_loopg [21] kj1 (fun kq v21 w'=>∃ (A0:Int),v21 = .int .i64 A0∧Aside0 (impl_TableOk.l0 kq (A1.size:Int) A0 A2 A1=some r)∧Aside0 (kq≤kj1)∧Aside0 (w'.heap[A7]? = some (.cells #[.int .i64 A2,.string A1] 29 (0,0)))∧Aside0 (Below w.heap.size w w'))
    case atStart=>exact ⟨(0),(by first|rfl|(simp;done)|(simp [*];done)),H',⟨Nat.le_refl _⟩,⟨dr A3⟩,⟨by exact tb HB⟩⟩
    case round =>
     clear H'
     (try clear c1);(try clear p2);(try clear c5);(try clear c6);(try clear p6);(try clear c7);(try clear c7b0);(try clear c7b1);(try clear c10);(try clear c11);(try clear hcz10__);(try clear hcz12__);(try clear hcz9__);(try clear hfz10__);(try clear hfz12__);(try clear hfz9__);(try clear p2);(try clear p6)
     obtain ⟨A0,rfl,HA,HK2,A3,HB⟩:=hrel
     cases gk with
          | zero=>exact absurd HA.out (by simp [impl_TableOk.l0])
          | succ k2 =>
      have H:=HA.out;clear HA
      simp only [impl_TableOk.l0] at H
      by_cases c13:A0 < (A1.size:Int)
      ·rw [if_pos c13] at H
       have c13b0:decide (A0 < (A1.size:Int))=true:=decide_eq_true c13;clear c13
       by_cases c14:0≤A0
       ·rw [if_pos c14] at H
        have c14b0:decide (0≤A0)=true:=decide_eq_true c14;clear c14
        by_cases c15:A0 < (A1.size:Int)
        ·rw [if_pos c15] at H
         have c15b0:decide (A0 < (A1.size:Int))=true:=decide_eq_true c15;clear c15
         by_cases c17:(bt A1 A0)=48
         ·rw [if_pos c17] at H
          have c17b0:((bt A1 A0) == 48)=true:=beq_iff_eq.mpr c17;have c17b1:((bt A1 A0) != 48)=false:=bne_eq_false_iff_eq.mpr c17;clear c17
          have H':=Aside0.mk H
          clear H;have hcz18__:=c2_ A3;have hfz18__:=f_ A3
          have p16:0≤(A0:Int):=od
          have q16:A0 < (A1.size:Int):=od
          have hx16:=bt_at A1 A0
          replace p16:=eq_true p16
          replace q16:=eq_true q16
          go_wp2
          go_roundg k2
          case measure=>have:=HJ1.out;have:=HK2.out;omega
          case rel=>exact ⟨(wrap64 (A0 + 1)),(by first|rfl|(simp;done)|(simp [*];done)),(by first|exact H'|(rw [hji8];exact H')),⟨by have:=HJ1.out;have:=HK2.out;omega⟩,⟨dr A3⟩,⟨by exact tb HB⟩⟩
         ·rw [if_neg c17] at H
          have c17b0:((bt A1 A0) == 48)=false:=beq_eq_false_iff_ne.mpr c17;have c17b1:((bt A1 A0) != 48)=true:=bne_iff_ne.mpr c17
          by_cases c20:(bt A1 A0)=49
          ·rw [if_pos c20] at H
           have c20b0:((bt A1 A0) == 49)=true:=beq_iff_eq.mpr c20;have c20b1:((bt A1 A0) != 49)=false:=bne_eq_false_iff_eq.mpr c20;clear c20
           have H':=Aside0.mk H
           clear H;have hcz21__:=c2_ A3;have hfz21__:=f_ A3
           have p16:0≤(A0:Int):=od
           have q16:A0 < (A1.size:Int):=od
           have hx16:=bt_at A1 A0
           replace p16:=eq_true p16
           replace q16:=eq_true q16
           have p19:0≤(A0:Int):=od
           have q19:A0 < (A1.size:Int):=od
           have hx19:=bt_at A1 A0
           replace p19:=eq_true p19
           replace q19:=eq_true q19
           go_wp2
           go_roundg k2
           case measure=>have:=HJ1.out;have:=HK2.out;omega
           case rel=>exact ⟨(wrap64 (A0 + 1)),(by first|rfl|(simp;done)|(simp [*];done)),(by first|exact H'|(rw [hji8];exact H')),⟨by have:=HJ1.out;have:=HK2.out;omega⟩,⟨dr A3⟩,⟨by exact tb HB⟩⟩
          ·rw [if_neg c20] at H
           have c20b0:((bt A1 A0) == 49)=false:=beq_eq_false_iff_ne.mpr c20;have c20b1:((bt A1 A0) != 49)=true:=bne_iff_ne.mpr c20
           obtain rfl:=Option.some.inj H
           have hcz22__:=c2_ A3;have hfz22__:=f_ A3
           have p16:0≤(A0:Int):=od
           have q16:A0 < (A1.size:Int):=od
           have hx16:=bt_at A1 A0
           replace p16:=eq_true p16
           replace q16:=eq_true q16
           have p19:0≤(A0:Int):=od
           have q19:A0 < (A1.size:Int):=od
           have hx19:=bt_at A1 A0
           replace p19:=eq_true p19
           replace q19:=eq_true q19
           go_wp2
           go_ret
           exact ⟨er,tb HB⟩
        ·rw [if_neg c15] at H
         exact absurd H (by simp)
       ·rw [if_neg c14] at H
        exact absurd H (by simp)
      ·rw [if_neg c13] at H
       have c13b0:decide (A0 < (A1.size:Int))=false:=decide_eq_false c13;clear c13
       obtain rfl:=Option.some.inj H
       go_wp2
       go_ret
       exact ⟨er,tb HB⟩
end Go.Proofs.Ytlpfmhikahlcoaa.G
namespace Go.Proofs.Ytlpfmhikahlcoaa.G
open Go.Proofs.Ytlpfmhikahlcoaa.Sh
open Go.RowKit Go.Proofs.YtlpfmhikahlcoaaW.PrintWords Go.Proofs.YtlpfmhikahlcoaaW.PrintLast Go.Proofs.YtlpfmhikahlcoaaW.PrintMore
attribute [local go_sem] max2_int min2_int max_two min_two max_three min_three max_four min_four
set_option linter.unusedVariables false
set_option linter.unusedSimpArgs false
def impl_rowed.f (k:Nat) (l0:List Bool) (a1_0:Int) (a1_1:ByteArray):Option (Bool):=(impl_TableOk.f k a1_0 a1_1).bind fun A4=>(if A4=true then (some ((l0.length:Int) == a1_0)) else (some false))
set_option maxHeartbeats 8000000 in
set_option maxRecDepth 100000 in
theorem impl_rowed.calls (k:Nat) (A0:Option Addr) (c0:Nat) (l0:List Bool) (a1_0:Int) (a1_1:ByteArray) (r:Bool) (w:World) (hr0:Kd.C Kd.bool w A0 l0.length l0) (hc0:l0.length≤c0) (h:impl_rowed.f k l0 a1_0 a1_1=some r) :
    Calls Try.prog 59 #[.slice A0 l0.length c0,.agg #[.int .i64 a1_0,.string a1_1]] w fun e w'=>e = .returned (.bool r)∧Below w.heap.size w w':=by
  have hu29:=Try.underlying29
  have HR0:=Aside0.mk hr0
  have HC0:=Aside0.mk hc0
  clear hr0 hc0
  have HB:=Aside0.mk (Below.refl w.heap.size w)
  have H:((impl_TableOk.f k a1_0 a1_1).bind fun A4=>(if A4=true then (some ((l0.length:Int) == a1_0)) else (some false)))=some r:=h
  clear h
  replace H:=Option.bind_eq_some_iff.mp H
  obtain ⟨A4,A30,H⟩:=H
  replace H:(if A4=true then (some ((l0.length:Int) == a1_0)) else (some false))=some r:=H
  have A3:=Aside0.mk A30
  clear A30
  by_cases c4:A4=true
  · subst c4
    have H1:(some ((l0.length:Int) == a1_0))=some r:=by rw [if_pos rfl] at H;exact H
    clear H
    have H:=H1
    clear H1
    obtain rfl:=Option.some.inj H
    go_enter Try.func59,Try.ntmps59
    go_wp2_with (first|((with_reducible refine gate_dst (N:=3) rfl ?_);(try (refine gate_guard (by rfl) ?_;dsimp only));refine bx (N:=3) (cs:=#[.int .i64 a1_0,.string a1_1]) (t:=29) ?_;intro A2 hg w5 hbox hb;have A1:=Aside0.mk (hbox);have A5:=Aside0.mk ((by rw [hg];exact (below_size (tb HB)):w.heap.size≤A2));have A6:=Aside0.mk ((by rw [hg];exact (below_size (tb HB)):w.heap.size≤A2));replace HB:=Aside0.mk (below_step (tb HB) hb);clear hb hbox hg;have hcz6__:=c2_ A1;have hfz6__:=f_ A1)|((with_reducible refine gate_callee (f:=106) rfl ?_);refine goesL_ (some 6) rfl rfl Try.func106 (by kernel_rfl) rfl #[.agg #[.int .i64 a1_0,.string a1_1]] rfl ml ?_;(with_reducible refine (impl_TableOk.calls k a1_0 a1_1 true _ A3.out).mono ?_);rintro e w7 ⟨rfl,hb⟩;refine ⟨_,rfl,?_⟩;replace A1:=Aside0.mk (blk_below (g:=A2) (o := .cells #[.int .i64 a1_0,.string a1_1] 29 (0,0)) (dr A1) hb);replace HB:=Aside0.mk (below_step (tb HB) hb);(try clear hb);(try clear hb2);(try clear hk);(try clear hi);have hcz8__:=c2_ A1;have hfz8__:=f_ A1))
    go_ret
    exact ⟨er,tb HB⟩
  · replace c4:=Bool.eq_false_iff.mpr c4
    subst c4
    have H1:(some false)=some r:=by rw [if_neg (show ¬ (false=true) by decide)] at H;exact H
    clear H
    have H:=H1
    clear H1
    obtain rfl:=Option.some.inj H
    go_enter Try.func59,Try.ntmps59
    go_wp2_with (first|((with_reducible refine gate_dst (N:=3) rfl ?_);(try (refine gate_guard (by rfl) ?_;dsimp only));refine bx (N:=3) (cs:=#[.int .i64 a1_0,.string a1_1]) (t:=29) ?_;intro A2 hg w9 hbox hb;have A1:=Aside0.mk (hbox);have A5:=Aside0.mk ((by rw [hg];exact (below_size (tb HB)):w.heap.size≤A2));have A6:=Aside0.mk ((by rw [hg];exact (below_size (tb HB)):w.heap.size≤A2));replace HB:=Aside0.mk (below_step (tb HB) hb);clear hb hbox hg;have hcz10__:=c2_ A1;have hfz10__:=f_ A1)|((with_reducible refine gate_callee (f:=106) rfl ?_);refine goesL_ (some 6) rfl rfl Try.func106 (by kernel_rfl) rfl #[.agg #[.int .i64 a1_0,.string a1_1]] rfl ml ?_;(with_reducible refine (impl_TableOk.calls k a1_0 a1_1 false _ A3.out).mono ?_);rintro e w11 ⟨rfl,hb⟩;refine ⟨_,rfl,?_⟩;replace A1:=Aside0.mk (blk_below (g:=A2) (o := .cells #[.int .i64 a1_0,.string a1_1] 29 (0,0)) (dr A1) hb);replace HB:=Aside0.mk (below_step (tb HB) hb);(try clear hb);(try clear hb2);(try clear hk);(try clear hi)))
    go_ret
    exact ⟨er,tb HB⟩
end Go.Proofs.Ytlpfmhikahlcoaa.G
namespace Go.Proofs.Ytlpfmhikahlcoaa.G
open Go.Proofs.Ytlpfmhikahlcoaa.Sh Go.RowKit Go.Proofs.YtlpfmhikahlcoaaW.PrintWords Go.Proofs.YtlpfmhikahlcoaaW.PrintLast Go.Proofs.YtlpfmhikahlcoaaW.PrintMore
attribute [local go_sem] max2_int min2_int max_two min_two max_three min_three max_four min_four
set_option linter.unusedVariables false
set_option linter.unusedSimpArgs false
open Go.Proofs.Ytlpfmhikahlcoaa.Mp
def decMem (x:ByteArray):(l:List ByteArray)→Decidable (x∈l)
  | []=>isFalse (by simp)
  | a :: r=>if h:x=a then isTrue (by rw [h];simp) else match decMem x r with
    | isTrue h'=>isTrue (List.mem_cons_of_mem _ h')
    | isFalse h'=>isFalse (fun h2=>(List.mem_cons.1 h2).elim h h')
instance (x:ByteArray) (l:List ByteArray):Decidable (x∈l):=decMem x l
def okSeen (L:List (S86)) (i:Nat):Prop:=((rd_T86 L i).f1=0∨(rd_T86 L i).f1=1)∧(rd_T86 L i).f0 ∉ ((L.take i).map fun s=>s.f0:List ByteArray)
instance (L:List (S86)) (i:Nat):Decidable (okSeen L i):=by unfold okSeen;infer_instance
def okMemo (L:List (S86)):Prop:=∀ i,i < L.length→okSeen L i
instance (L:List (S86)):Decidable (okMemo L):=by unfold okMemo;infer_instance
def okFront (room:Int) (nm nv:Nat) (N:Int):Bool:=decide (0≤room∧room≤40) && !decide ((nm:Int) > room) && !decide ((nv:Int) > N)
def okRet (ret:Int) (over:Bool) (nv:Nat):Bool:=decide (-1≤ret∧ret≤1) && !(over && (decide (ret < 0) || decide ((nv:Int) > 0)))
def okCounts (a b c:Int):Bool:=decide (0≤a∧a≤1000000000) && decide (0≤b∧b≤1000000000) && decide (0≤c∧c≤1000000000)
def impl_MachineOk.f (k:Nat) (A2:List Bool) (A3:Int) (A7:ByteArray) (A4:Int) (A1:List Int) (Ac:Int) (Ag:Bool) (A8:Int) (A9:Int) (Ad:Int) (A0:List (S86)):Option Bool :=
 if ∀ s∈A0,s.f0.size≤maxLen then
  (impl_rowed.f k A2 A3 A7).bind fun t1=>(impl_placeOfBits.f k A1).bind fun t2 =>
   some (t1 && okFront A4 A0.length A1.length A3 && t2.2 && okRet Ac Ag A1.length && decide (okMemo A0) && okCounts A8 A9 Ad)
 else none
theorem strKey (x:ByteArray) (h:x.size≤maxLen):(keyOf Try.prog 9 (.string x)).isSome=true:=by
 rw [WideMaps.keyOf_string_mk Try.underlying9 h];rfl
theorem strCodec:Codec Try.prog 9 Value.string (fun s=>s.size≤maxLen):=⟨Go.Maps.string_keyed Try.underlying9,strKey,fun x y h=>by injection h⟩
theorem zeroInt (w:World):(zeroValue 3).run Try.prog w = .ok (.int .i64 0) w:=by kernel_rfl
def seenMap (L:List (S86)) (i:Nat):List (ByteArray × Int):=((L.take i).map fun s=>(s.f0,1)).reverse
theorem mget_ones (x:ByteArray):∀ l:List (S86),mget (l.map fun s=>(s.f0,(1:Int))) x=if x∈(l.map (fun s=>s.f0):List ByteArray) then 1 else 0:=by
 intro l
 induction l with
  | nil=>rfl
  | cons a r ih =>
  simp only [List.map_cons,mget,List.mem_cons]
  by_cases h:a.f0=x
  ·rw [if_pos h,if_pos (.inl h.symm)]
  ·rw [if_neg h,ih]
   by_cases h':x∈(r.map (fun s=>s.f0):List ByteArray)
   ·rw [if_pos h',if_pos (.inr h')]
   ·rw [if_neg h',if_neg (fun h2=>h2.elim (fun h2=>h h2.symm) h')]
theorem mget_seen (L:List (S86)) (i:Nat) (x:ByteArray):mget (seenMap L i) x=if x∈((L.take i).map (fun s=>s.f0):List ByteArray) then 1 else 0:=by
 unfold seenMap
 rw [← List.map_reverse,mget_ones]
 simp only [List.map_reverse,List.mem_reverse]
theorem seenMap_succ (L:List (S86)) (i:Nat) (hi:i < L.length):seenMap L (i + 1)=((rd_T86 L i).f0,1) :: seenMap L i:=by
 unfold seenMap
 rw [List.take_add_one,List.map_append,List.reverse_append,List.getElem?_eq_getElem hi]
 simp [rd_T86,List.getD_eq_getElem?_getD,List.getElem?_eq_getElem hi]
theorem within_eq (a b c:Int):impl_within.f a b c=some (decide (b≤a∧a≤c)):=by
 unfold impl_within.f
 by_cases h:a ≥ b
 ·rw [if_pos h];simp [h]
 ·rw [if_neg h];simp [h]
theorem isCount_eq (a:Int):impl_isCount.f a=some (decide (0≤a∧a≤1000000000)):=by
 unfold impl_isCount.f;rw [within_eq];rfl
set_option maxHeartbeats 80000000 in
set_option maxRecDepth 100000 in
theorem mok_1 (k:Nat) (Aa:Option Addr) (Ab:Nat) (A2:List Bool) (A3:Int) (A7:ByteArray) (A4:Int) (Ae:Option Addr) (Af:Nat) (A1:List Int) (Ac:Int) (Ag:Bool) (A8:Int) (A9:Int) (Ad:Int) (A5:Option Addr) (A6:Nat) (A0:List (S86)) (w:World) (hr0_0:Kd.C Kd.bool w Aa A2.length A2) (hc0_0:A2.length≤Ab) (hr0_4:Kd.C (Kd.int .i64) w Ae A1.length A1) (hc0_4:A1.length≤Af) (hr0_10:Kd.C k86 w A5 A0.length A0) (hc0_10:A0.length≤A6) (h1:Aside0 (impl_rowed.f k A2 A3 A7=some false)) :
  Calls Try.prog 32 #[.agg #[.slice Aa A2.length Ab,.int .i64 A3,.string A7,.int .i64 A4,.slice Ae A1.length Af,.int .i64 Ac,.bool Ag,.int .i64 A8,.int .i64 A9,.int .i64 Ad,.slice A5 A0.length A6]] w fun e w'=>e = .returned (.bool false)∧Below w.heap.size w w':=by
   go_enter Try.func32,Try.ntmps32
   go_wp2_with (first|((with_reducible refine gate_dst (N:=1) rfl ?_);refine bx (N:=1) (cs:=#[.slice Aa A2.length Ab,.int .i64 A3,.string A7,.int .i64 A4,.slice Ae A1.length Af,.int .i64 Ac,.bool Ag,.int .i64 A8,.int .i64 A9,.int .i64 Ad,.slice A5 A0.length A6]) (t:=36) ?_;intro gb hg w3 hbox hb;have HB:=Aside0.mk hb;have BK:=Aside0.mk hbox;have GE:=Aside0.mk (by rw [hg];exact Nat.le_refl _:w.heap.size≤gb);clear hb hbox hg;obtain ⟨hcz0,hcz1,hcz2,hcz3,hcz4,hcz5,hcz6,hcz7,hcz8,hcz9,hcz10⟩:=c11_ BK)|((with_reducible refine gate_callee (f:=59) rfl ?_);(try (refine gate_guard (by rfl) ?_;dsimp only));refine goesL_ (some 12) rfl rfl Try.func59 (by kernel_rfl) rfl #[.slice Aa A2.length Ab,.agg #[.int .i64 A3,.string A7]] rfl ml ?_;(with_reducible refine (impl_rowed.calls k _ _ A2 A3 A7 false _ ?side1 hc0_0 h1.out).mono ?_);(case side1=>exact Kd.C_below hr0_0 HB.out);rintro e w4 ⟨rfl,hb⟩;refine ⟨_,rfl,?_⟩;have HB4:=Aside0.mk (below_step HB.out hb);have Ah:=Aside0.mk (blk_below BK.out hb);clear hb HB BK;clear hcz0 hcz1 hcz2 hcz3 hcz4 hcz5 hcz6 hcz7 hcz8 hcz9 hcz10;obtain ⟨hcy0,hcy1,hcy2,hcy3,hcy4,hcy5,hcy6,hcy7,hcy8,hcy9,hcy10⟩:=c11_ Ah))
   go_ret
   exact ⟨rfl,by repeat (first|(with_reducible first|exact HB4.out|exact HB.out|apply below_alloc|apply pw_below_drewN|apply below_drew1)|exact HB4.out|exact HB.out)⟩
set_option maxHeartbeats 80000000 in
set_option maxRecDepth 100000 in
theorem mok_2 (k:Nat) (Aa:Option Addr) (Ab:Nat) (A2:List Bool) (A3:Int) (A7:ByteArray) (A4:Int) (Ae:Option Addr) (Af:Nat) (A1:List Int) (Ac:Int) (Ag:Bool) (A8:Int) (A9:Int) (Ad:Int) (A5:Option Addr) (A6:Nat) (A0:List (S86)) (w:World) (hr0_0:Kd.C Kd.bool w Aa A2.length A2) (hc0_0:A2.length≤Ab) (hr0_4:Kd.C (Kd.int .i64) w Ae A1.length A1) (hc0_4:A1.length≤Af) (hr0_10:Kd.C k86 w A5 A0.length A0) (hc0_10:A0.length≤A6) (h1:Aside0 (impl_rowed.f k A2 A3 A7=some true)) (h2:Aside0 (impl_within.f A4 0 40=some false)) :
  Calls Try.prog 32 #[.agg #[.slice Aa A2.length Ab,.int .i64 A3,.string A7,.int .i64 A4,.slice Ae A1.length Af,.int .i64 Ac,.bool Ag,.int .i64 A8,.int .i64 A9,.int .i64 Ad,.slice A5 A0.length A6]] w fun e w'=>e = .returned (.bool false)∧Below w.heap.size w w':=by
   go_enter Try.func32,Try.ntmps32
   go_wp2_with (first|((with_reducible refine gate_dst (N:=1) rfl ?_);refine bx (N:=1) (cs:=#[.slice Aa A2.length Ab,.int .i64 A3,.string A7,.int .i64 A4,.slice Ae A1.length Af,.int .i64 Ac,.bool Ag,.int .i64 A8,.int .i64 A9,.int .i64 Ad,.slice A5 A0.length A6]) (t:=36) ?_;intro gb hg w3 hbox hb;have HB:=Aside0.mk hb;have BK:=Aside0.mk hbox;have GE:=Aside0.mk (by rw [hg];exact Nat.le_refl _:w.heap.size≤gb);clear hb hbox hg;obtain ⟨hcz0,hcz1,hcz2,hcz3,hcz4,hcz5,hcz6,hcz7,hcz8,hcz9,hcz10⟩:=c11_ BK)|((with_reducible refine gate_callee (f:=59) rfl ?_);(try (refine gate_guard (by rfl) ?_;dsimp only));refine goesL_ (some 12) rfl rfl Try.func59 (by kernel_rfl) rfl #[.slice Aa A2.length Ab,.agg #[.int .i64 A3,.string A7]] rfl ml ?_;(with_reducible refine (impl_rowed.calls k _ _ A2 A3 A7 true _ ?side1 hc0_0 h1.out).mono ?_);(case side1=>exact Kd.C_below hr0_0 HB.out);rintro e w4 ⟨rfl,hb⟩;refine ⟨_,rfl,?_⟩;have HB4:=Aside0.mk (below_step HB.out hb);have Ah:=Aside0.mk (blk_below BK.out hb);clear hb HB BK;clear hcz0 hcz1 hcz2 hcz3 hcz4 hcz5 hcz6 hcz7 hcz8 hcz9 hcz10;obtain ⟨hcy0,hcy1,hcy2,hcy3,hcy4,hcy5,hcy6,hcy7,hcy8,hcy9,hcy10⟩:=c11_ Ah)|(go_at_call 64;(try simp only [i64_w,i32_w]);(with_reducible refine (impl_within.calls A4 0 40 false _ h2.out).mono ?_);rintro e w' ⟨rfl,⟨nd,rfl⟩⟩))
   go_ret
   exact ⟨rfl,by repeat (first|(with_reducible first|exact HB4.out|exact HB.out|apply below_alloc|apply pw_below_drewN|apply below_drew1)|exact HB4.out|exact HB.out)⟩
set_option maxHeartbeats 80000000 in
set_option maxRecDepth 100000 in
theorem mok_3 (k:Nat) (Aa:Option Addr) (Ab:Nat) (A2:List Bool) (A3:Int) (A7:ByteArray) (A4:Int) (Ae:Option Addr) (Af:Nat) (A1:List Int) (Ac:Int) (Ag:Bool) (A8:Int) (A9:Int) (Ad:Int) (A5:Option Addr) (A6:Nat) (A0:List (S86)) (w:World) (hr0_0:Kd.C Kd.bool w Aa A2.length A2) (hc0_0:A2.length≤Ab) (hr0_4:Kd.C (Kd.int .i64) w Ae A1.length A1) (hc0_4:A1.length≤Af) (hr0_10:Kd.C k86 w A5 A0.length A0) (hc0_10:A0.length≤A6) (h1:Aside0 (impl_rowed.f k A2 A3 A7=some true)) (h2:Aside0 (impl_within.f A4 0 40=some true)) (gm:decide ((A0.length:Int) > A4)=true) :
  Calls Try.prog 32 #[.agg #[.slice Aa A2.length Ab,.int .i64 A3,.string A7,.int .i64 A4,.slice Ae A1.length Af,.int .i64 Ac,.bool Ag,.int .i64 A8,.int .i64 A9,.int .i64 Ad,.slice A5 A0.length A6]] w fun e w'=>e = .returned (.bool false)∧Below w.heap.size w w':=by
   have gm1:decide (A4 < (A0.length:Int))=true:=gm
   go_enter Try.func32,Try.ntmps32
   go_wp2_with (first|((with_reducible refine gate_dst (N:=1) rfl ?_);refine bx (N:=1) (cs:=#[.slice Aa A2.length Ab,.int .i64 A3,.string A7,.int .i64 A4,.slice Ae A1.length Af,.int .i64 Ac,.bool Ag,.int .i64 A8,.int .i64 A9,.int .i64 Ad,.slice A5 A0.length A6]) (t:=36) ?_;intro gb hg w3 hbox hb;have HB:=Aside0.mk hb;have BK:=Aside0.mk hbox;have GE:=Aside0.mk (by rw [hg];exact Nat.le_refl _:w.heap.size≤gb);clear hb hbox hg;obtain ⟨hcz0,hcz1,hcz2,hcz3,hcz4,hcz5,hcz6,hcz7,hcz8,hcz9,hcz10⟩:=c11_ BK)|((with_reducible refine gate_callee (f:=59) rfl ?_);(try (refine gate_guard (by rfl) ?_;dsimp only));refine goesL_ (some 12) rfl rfl Try.func59 (by kernel_rfl) rfl #[.slice Aa A2.length Ab,.agg #[.int .i64 A3,.string A7]] rfl ml ?_;(with_reducible refine (impl_rowed.calls k _ _ A2 A3 A7 true _ ?side1 hc0_0 h1.out).mono ?_);(case side1=>exact Kd.C_below hr0_0 HB.out);rintro e w4 ⟨rfl,hb⟩;refine ⟨_,rfl,?_⟩;have HB4:=Aside0.mk (below_step HB.out hb);have Ah:=Aside0.mk (blk_below BK.out hb);clear hb HB BK;clear hcz0 hcz1 hcz2 hcz3 hcz4 hcz5 hcz6 hcz7 hcz8 hcz9 hcz10;obtain ⟨hcy0,hcy1,hcy2,hcy3,hcy4,hcy5,hcy6,hcy7,hcy8,hcy9,hcy10⟩:=c11_ Ah)|(go_at_call 64;(try simp only [i64_w,i32_w]);(with_reducible refine (impl_within.calls A4 0 40 true _ h2.out).mono ?_);rintro e w' ⟨rfl,⟨nd,rfl⟩⟩))
   go_ret
   exact ⟨rfl,by repeat (first|(with_reducible first|exact HB4.out|exact HB.out|apply below_alloc|apply pw_below_drewN|apply below_drew1)|exact HB4.out|exact HB.out)⟩
set_option maxHeartbeats 80000000 in
set_option maxRecDepth 100000 in
theorem mok_4 (k:Nat) (Aa:Option Addr) (Ab:Nat) (A2:List Bool) (A3:Int) (A7:ByteArray) (A4:Int) (Ae:Option Addr) (Af:Nat) (A1:List Int) (Ac:Int) (Ag:Bool) (A8:Int) (A9:Int) (Ad:Int) (A5:Option Addr) (A6:Nat) (A0:List (S86)) (w:World) (hr0_0:Kd.C Kd.bool w Aa A2.length A2) (hc0_0:A2.length≤Ab) (hr0_4:Kd.C (Kd.int .i64) w Ae A1.length A1) (hc0_4:A1.length≤Af) (hr0_10:Kd.C k86 w A5 A0.length A0) (hc0_10:A0.length≤A6) (h1:Aside0 (impl_rowed.f k A2 A3 A7=some true)) (h2:Aside0 (impl_within.f A4 0 40=some true)) (gm:decide ((A0.length:Int) > A4)=false) (gv:decide ((A1.length:Int) > A3)=true) :
  Calls Try.prog 32 #[.agg #[.slice Aa A2.length Ab,.int .i64 A3,.string A7,.int .i64 A4,.slice Ae A1.length Af,.int .i64 Ac,.bool Ag,.int .i64 A8,.int .i64 A9,.int .i64 Ad,.slice A5 A0.length A6]] w fun e w'=>e = .returned (.bool false)∧Below w.heap.size w w':=by
   have gm1:decide (A4 < (A0.length:Int))=false:=gm;have gv1:decide (A3 < (A1.length:Int))=true:=gv
   go_enter Try.func32,Try.ntmps32
   go_wp2_with (first|((with_reducible refine gate_dst (N:=1) rfl ?_);refine bx (N:=1) (cs:=#[.slice Aa A2.length Ab,.int .i64 A3,.string A7,.int .i64 A4,.slice Ae A1.length Af,.int .i64 Ac,.bool Ag,.int .i64 A8,.int .i64 A9,.int .i64 Ad,.slice A5 A0.length A6]) (t:=36) ?_;intro gb hg w3 hbox hb;have HB:=Aside0.mk hb;have BK:=Aside0.mk hbox;have GE:=Aside0.mk (by rw [hg];exact Nat.le_refl _:w.heap.size≤gb);clear hb hbox hg;obtain ⟨hcz0,hcz1,hcz2,hcz3,hcz4,hcz5,hcz6,hcz7,hcz8,hcz9,hcz10⟩:=c11_ BK)|((with_reducible refine gate_callee (f:=59) rfl ?_);(try (refine gate_guard (by rfl) ?_;dsimp only));refine goesL_ (some 12) rfl rfl Try.func59 (by kernel_rfl) rfl #[.slice Aa A2.length Ab,.agg #[.int .i64 A3,.string A7]] rfl ml ?_;(with_reducible refine (impl_rowed.calls k _ _ A2 A3 A7 true _ ?side1 hc0_0 h1.out).mono ?_);(case side1=>exact Kd.C_below hr0_0 HB.out);rintro e w4 ⟨rfl,hb⟩;refine ⟨_,rfl,?_⟩;have HB4:=Aside0.mk (below_step HB.out hb);have Ah:=Aside0.mk (blk_below BK.out hb);clear hb HB BK;clear hcz0 hcz1 hcz2 hcz3 hcz4 hcz5 hcz6 hcz7 hcz8 hcz9 hcz10;obtain ⟨hcy0,hcy1,hcy2,hcy3,hcy4,hcy5,hcy6,hcy7,hcy8,hcy9,hcy10⟩:=c11_ Ah)|(go_at_call 64;(try simp only [i64_w,i32_w]);(with_reducible refine (impl_within.calls A4 0 40 true _ h2.out).mono ?_);rintro e w' ⟨rfl,⟨nd,rfl⟩⟩))
   go_ret
   exact ⟨rfl,by repeat (first|(with_reducible first|exact HB4.out|exact HB.out|apply below_alloc|apply pw_below_drewN|apply below_drew1)|exact HB4.out|exact HB.out)⟩
set_option maxHeartbeats 80000000 in
set_option maxRecDepth 100000 in
theorem mok_5 (k:Nat) (Aa:Option Addr) (Ab:Nat) (A2:List Bool) (A3:Int) (A7:ByteArray) (A4:Int) (Ae:Option Addr) (Af:Nat) (A1:List Int) (Ac:Int) (Ag:Bool) (A8:Int) (A9:Int) (Ad:Int) (A5:Option Addr) (A6:Nat) (A0:List (S86)) (w:World) (hr0_0:Kd.C Kd.bool w Aa A2.length A2) (hc0_0:A2.length≤Ab) (hr0_4:Kd.C (Kd.int .i64) w Ae A1.length A1) (hc0_4:A1.length≤Af) (hr0_10:Kd.C k86 w A5 A0.length A0) (hc0_10:A0.length≤A6) (h1:Aside0 (impl_rowed.f k A2 A3 A7=some true)) (h2:Aside0 (impl_within.f A4 0 40=some true)) (gm:decide ((A0.length:Int) > A4)=false) (gv:decide ((A1.length:Int) > A3)=false) (pv:Int) (h3:Aside0 (impl_placeOfBits.f k A1=some (pv,false))) :
  Calls Try.prog 32 #[.agg #[.slice Aa A2.length Ab,.int .i64 A3,.string A7,.int .i64 A4,.slice Ae A1.length Af,.int .i64 Ac,.bool Ag,.int .i64 A8,.int .i64 A9,.int .i64 Ad,.slice A5 A0.length A6]] w fun e w'=>e = .returned (.bool false)∧Below w.heap.size w w':=by
   have gm1:decide (A4 < (A0.length:Int))=false:=gm;have gv1:decide (A3 < (A1.length:Int))=false:=gv
   go_enter Try.func32,Try.ntmps32
   go_wp2_with (first|((with_reducible refine gate_dst (N:=1) rfl ?_);refine bx (N:=1) (cs:=#[.slice Aa A2.length Ab,.int .i64 A3,.string A7,.int .i64 A4,.slice Ae A1.length Af,.int .i64 Ac,.bool Ag,.int .i64 A8,.int .i64 A9,.int .i64 Ad,.slice A5 A0.length A6]) (t:=36) ?_;intro gb hg w3 hbox hb;have HB:=Aside0.mk hb;have BK:=Aside0.mk hbox;have GE:=Aside0.mk (by rw [hg];exact Nat.le_refl _:w.heap.size≤gb);clear hb hbox hg;obtain ⟨hcz0,hcz1,hcz2,hcz3,hcz4,hcz5,hcz6,hcz7,hcz8,hcz9,hcz10⟩:=c11_ BK)|((with_reducible refine gate_callee (f:=59) rfl ?_);(try (refine gate_guard (by rfl) ?_;dsimp only));refine goesL_ (some 12) rfl rfl Try.func59 (by kernel_rfl) rfl #[.slice Aa A2.length Ab,.agg #[.int .i64 A3,.string A7]] rfl ml ?_;(with_reducible refine (impl_rowed.calls k _ _ A2 A3 A7 true _ ?side1 hc0_0 h1.out).mono ?_);(case side1=>exact Kd.C_below hr0_0 HB.out);rintro e w4 ⟨rfl,hb⟩;refine ⟨_,rfl,?_⟩;have HB4:=Aside0.mk (below_step HB.out hb);have Ah:=Aside0.mk (blk_below BK.out hb);clear hb HB BK;clear hcz0 hcz1 hcz2 hcz3 hcz4 hcz5 hcz6 hcz7 hcz8 hcz9 hcz10;obtain ⟨hcy0,hcy1,hcy2,hcy3,hcy4,hcy5,hcy6,hcy7,hcy8,hcy9,hcy10⟩:=c11_ Ah)|(go_at_call 64;(try simp only [i64_w,i32_w]);(with_reducible refine (impl_within.calls A4 0 40 true _ h2.out).mono ?_);rintro e w' ⟨rfl,⟨nd,rfl⟩⟩)|(go_at_call 77;(try simp only [i64_w,i32_w]);refine (impl_placeOfBits.calls k _ _ A1 pv false _ ?_ hc0_4 h3.out).mono ?_;exact Kd.C_below hr0_4 (pw_below_drewN HB4.out _);rintro e w' ⟨rfl,⟨nd,rfl⟩⟩))
   go_ret
   exact ⟨rfl,by repeat (first|(with_reducible first|exact HB4.out|exact HB.out|apply below_alloc|apply pw_below_drewN|apply below_drew1)|exact HB4.out|exact HB.out)⟩
set_option maxHeartbeats 80000000 in
set_option maxRecDepth 100000 in
theorem mok_6 (k:Nat) (Aa:Option Addr) (Ab:Nat) (A2:List Bool) (A3:Int) (A7:ByteArray) (A4:Int) (Ae:Option Addr) (Af:Nat) (A1:List Int) (Ac:Int) (Ag:Bool) (A8:Int) (A9:Int) (Ad:Int) (A5:Option Addr) (A6:Nat) (A0:List (S86)) (w:World) (hr0_0:Kd.C Kd.bool w Aa A2.length A2) (hc0_0:A2.length≤Ab) (hr0_4:Kd.C (Kd.int .i64) w Ae A1.length A1) (hc0_4:A1.length≤Af) (hr0_10:Kd.C k86 w A5 A0.length A0) (hc0_10:A0.length≤A6) (h1:Aside0 (impl_rowed.f k A2 A3 A7=some true)) (h2:Aside0 (impl_within.f A4 0 40=some true)) (gm:decide ((A0.length:Int) > A4)=false) (gv:decide ((A1.length:Int) > A3)=false) (pv:Int) (h3:Aside0 (impl_placeOfBits.f k A1=some (pv,true))) (h4:Aside0 (impl_within.f Ac (-1) 1=some false)) :
  Calls Try.prog 32 #[.agg #[.slice Aa A2.length Ab,.int .i64 A3,.string A7,.int .i64 A4,.slice Ae A1.length Af,.int .i64 Ac,.bool Ag,.int .i64 A8,.int .i64 A9,.int .i64 Ad,.slice A5 A0.length A6]] w fun e w'=>e = .returned (.bool false)∧Below w.heap.size w w':=by
   have gm1:decide (A4 < (A0.length:Int))=false:=gm;have gv1:decide (A3 < (A1.length:Int))=false:=gv
   go_enter Try.func32,Try.ntmps32
   go_wp2_with (first|((with_reducible refine gate_dst (N:=1) rfl ?_);refine bx (N:=1) (cs:=#[.slice Aa A2.length Ab,.int .i64 A3,.string A7,.int .i64 A4,.slice Ae A1.length Af,.int .i64 Ac,.bool Ag,.int .i64 A8,.int .i64 A9,.int .i64 Ad,.slice A5 A0.length A6]) (t:=36) ?_;intro gb hg w3 hbox hb;have HB:=Aside0.mk hb;have BK:=Aside0.mk hbox;have GE:=Aside0.mk (by rw [hg];exact Nat.le_refl _:w.heap.size≤gb);clear hb hbox hg;obtain ⟨hcz0,hcz1,hcz2,hcz3,hcz4,hcz5,hcz6,hcz7,hcz8,hcz9,hcz10⟩:=c11_ BK)|((with_reducible refine gate_callee (f:=59) rfl ?_);(try (refine gate_guard (by rfl) ?_;dsimp only));refine goesL_ (some 12) rfl rfl Try.func59 (by kernel_rfl) rfl #[.slice Aa A2.length Ab,.agg #[.int .i64 A3,.string A7]] rfl ml ?_;(with_reducible refine (impl_rowed.calls k _ _ A2 A3 A7 true _ ?side1 hc0_0 h1.out).mono ?_);(case side1=>exact Kd.C_below hr0_0 HB.out);rintro e w4 ⟨rfl,hb⟩;refine ⟨_,rfl,?_⟩;have HB4:=Aside0.mk (below_step HB.out hb);have Ah:=Aside0.mk (blk_below BK.out hb);clear hb HB BK;clear hcz0 hcz1 hcz2 hcz3 hcz4 hcz5 hcz6 hcz7 hcz8 hcz9 hcz10;obtain ⟨hcy0,hcy1,hcy2,hcy3,hcy4,hcy5,hcy6,hcy7,hcy8,hcy9,hcy10⟩:=c11_ Ah)|(go_at_call 64;(try simp only [i64_w,i32_w]);(with_reducible refine (impl_within.calls A4 0 40 true _ h2.out).mono ?_);rintro e w' ⟨rfl,⟨nd,rfl⟩⟩)|(go_at_call 77;(try simp only [i64_w,i32_w]);refine (impl_placeOfBits.calls k _ _ A1 pv true _ ?_ hc0_4 h3.out).mono ?_;exact Kd.C_below hr0_4 (pw_below_drewN HB4.out _);rintro e w' ⟨rfl,⟨nd,rfl⟩⟩)|(go_at_call 64;(try simp only [i64_w,i32_w]);(with_reducible refine (impl_within.calls Ac (-1) 1 false _ h4.out).mono ?_);rintro e w' ⟨rfl,⟨nd,rfl⟩⟩))
   go_ret
   exact ⟨rfl,by repeat (first|(with_reducible first|exact HB4.out|exact HB.out|apply below_alloc|apply pw_below_drewN|apply below_drew1)|exact HB4.out|exact HB.out)⟩
set_option maxHeartbeats 80000000 in
set_option maxRecDepth 100000 in
theorem mok_7 (k:Nat) (Aa:Option Addr) (Ab:Nat) (A2:List Bool) (A3:Int) (A7:ByteArray) (A4:Int) (Ae:Option Addr) (Af:Nat) (A1:List Int) (Ac:Int) (Ag:Bool) (A8:Int) (A9:Int) (Ad:Int) (A5:Option Addr) (A6:Nat) (A0:List (S86)) (w:World) (hr0_0:Kd.C Kd.bool w Aa A2.length A2) (hc0_0:A2.length≤Ab) (hr0_4:Kd.C (Kd.int .i64) w Ae A1.length A1) (hc0_4:A1.length≤Af) (hr0_10:Kd.C k86 w A5 A0.length A0) (hc0_10:A0.length≤A6) (h1:Aside0 (impl_rowed.f k A2 A3 A7=some true)) (h2:Aside0 (impl_within.f A4 0 40=some true)) (gm:decide ((A0.length:Int) > A4)=false) (gv:decide ((A1.length:Int) > A3)=false) (pv:Int) (h3:Aside0 (impl_placeOfBits.f k A1=some (pv,true))) (h4:Aside0 (impl_within.f Ac (-1) 1=some true)) (g6:Ag=true) (g5:decide (Ac < 0)=true) :
  Calls Try.prog 32 #[.agg #[.slice Aa A2.length Ab,.int .i64 A3,.string A7,.int .i64 A4,.slice Ae A1.length Af,.int .i64 Ac,.bool Ag,.int .i64 A8,.int .i64 A9,.int .i64 Ad,.slice A5 A0.length A6]] w fun e w'=>e = .returned (.bool false)∧Below w.heap.size w w':=by
   have gm1:decide (A4 < (A0.length:Int))=false:=gm;have gv1:decide (A3 < (A1.length:Int))=false:=gv
   subst g6
   go_enter Try.func32,Try.ntmps32
   go_wp2_with (first|((with_reducible refine gate_dst (N:=1) rfl ?_);refine bx (N:=1) (cs:=#[.slice Aa A2.length Ab,.int .i64 A3,.string A7,.int .i64 A4,.slice Ae A1.length Af,.int .i64 Ac,.bool true,.int .i64 A8,.int .i64 A9,.int .i64 Ad,.slice A5 A0.length A6]) (t:=36) ?_;intro gb hg w3 hbox hb;have HB:=Aside0.mk hb;have BK:=Aside0.mk hbox;have GE:=Aside0.mk (by rw [hg];exact Nat.le_refl _:w.heap.size≤gb);clear hb hbox hg;obtain ⟨hcz0,hcz1,hcz2,hcz3,hcz4,hcz5,hcz6,hcz7,hcz8,hcz9,hcz10⟩:=c11_ BK)|((with_reducible refine gate_callee (f:=59) rfl ?_);(try (refine gate_guard (by rfl) ?_;dsimp only));refine goesL_ (some 12) rfl rfl Try.func59 (by kernel_rfl) rfl #[.slice Aa A2.length Ab,.agg #[.int .i64 A3,.string A7]] rfl ml ?_;(with_reducible refine (impl_rowed.calls k _ _ A2 A3 A7 true _ ?side1 hc0_0 h1.out).mono ?_);(case side1=>exact Kd.C_below hr0_0 HB.out);rintro e w4 ⟨rfl,hb⟩;refine ⟨_,rfl,?_⟩;have HB4:=Aside0.mk (below_step HB.out hb);have Ah:=Aside0.mk (blk_below BK.out hb);clear hb HB BK;clear hcz0 hcz1 hcz2 hcz3 hcz4 hcz5 hcz6 hcz7 hcz8 hcz9 hcz10;obtain ⟨hcy0,hcy1,hcy2,hcy3,hcy4,hcy5,hcy6,hcy7,hcy8,hcy9,hcy10⟩:=c11_ Ah)|(go_at_call 64;(try simp only [i64_w,i32_w]);(with_reducible refine (impl_within.calls A4 0 40 true _ h2.out).mono ?_);rintro e w' ⟨rfl,⟨nd,rfl⟩⟩)|(go_at_call 77;(try simp only [i64_w,i32_w]);refine (impl_placeOfBits.calls k _ _ A1 pv true _ ?_ hc0_4 h3.out).mono ?_;exact Kd.C_below hr0_4 (pw_below_drewN HB4.out _);rintro e w' ⟨rfl,⟨nd,rfl⟩⟩)|(go_at_call 64;(try simp only [i64_w,i32_w]);(with_reducible refine (impl_within.calls Ac (-1) 1 true _ h4.out).mono ?_);rintro e w' ⟨rfl,⟨nd,rfl⟩⟩))
   go_ret
   exact ⟨rfl,by repeat (first|(with_reducible first|exact HB4.out|exact HB.out|apply below_alloc|apply pw_below_drewN|apply below_drew1)|exact HB4.out|exact HB.out)⟩
set_option maxHeartbeats 80000000 in
set_option maxRecDepth 100000 in
theorem mok_8 (k:Nat) (Aa:Option Addr) (Ab:Nat) (A2:List Bool) (A3:Int) (A7:ByteArray) (A4:Int) (Ae:Option Addr) (Af:Nat) (A1:List Int) (Ac:Int) (Ag:Bool) (A8:Int) (A9:Int) (Ad:Int) (A5:Option Addr) (A6:Nat) (A0:List (S86)) (w:World) (hr0_0:Kd.C Kd.bool w Aa A2.length A2) (hc0_0:A2.length≤Ab) (hr0_4:Kd.C (Kd.int .i64) w Ae A1.length A1) (hc0_4:A1.length≤Af) (hr0_10:Kd.C k86 w A5 A0.length A0) (hc0_10:A0.length≤A6) (h1:Aside0 (impl_rowed.f k A2 A3 A7=some true)) (h2:Aside0 (impl_within.f A4 0 40=some true)) (gm:decide ((A0.length:Int) > A4)=false) (gv:decide ((A1.length:Int) > A3)=false) (pv:Int) (h3:Aside0 (impl_placeOfBits.f k A1=some (pv,true))) (h4:Aside0 (impl_within.f Ac (-1) 1=some true)) (g6:Ag=true) (g5:decide (Ac < 0)=false) (gz:decide ((A1.length:Int) > 0)=true) :
  Calls Try.prog 32 #[.agg #[.slice Aa A2.length Ab,.int .i64 A3,.string A7,.int .i64 A4,.slice Ae A1.length Af,.int .i64 Ac,.bool Ag,.int .i64 A8,.int .i64 A9,.int .i64 Ad,.slice A5 A0.length A6]] w fun e w'=>e = .returned (.bool false)∧Below w.heap.size w w':=by
   have gm1:decide (A4 < (A0.length:Int))=false:=gm;have gv1:decide (A3 < (A1.length:Int))=false:=gv;have gz1:decide (0 < (A1.length:Int))=true:=gz
   have gz2:decide (0 < A1.length)=true:=by rw [← gz1];exact decide_eq_decide.2 (by omega)
   subst g6
   go_enter Try.func32,Try.ntmps32
   go_wp2_with (first|((with_reducible refine gate_dst (N:=1) rfl ?_);refine bx (N:=1) (cs:=#[.slice Aa A2.length Ab,.int .i64 A3,.string A7,.int .i64 A4,.slice Ae A1.length Af,.int .i64 Ac,.bool true,.int .i64 A8,.int .i64 A9,.int .i64 Ad,.slice A5 A0.length A6]) (t:=36) ?_;intro gb hg w3 hbox hb;have HB:=Aside0.mk hb;have BK:=Aside0.mk hbox;have GE:=Aside0.mk (by rw [hg];exact Nat.le_refl _:w.heap.size≤gb);clear hb hbox hg;obtain ⟨hcz0,hcz1,hcz2,hcz3,hcz4,hcz5,hcz6,hcz7,hcz8,hcz9,hcz10⟩:=c11_ BK)|((with_reducible refine gate_callee (f:=59) rfl ?_);(try (refine gate_guard (by rfl) ?_;dsimp only));refine goesL_ (some 12) rfl rfl Try.func59 (by kernel_rfl) rfl #[.slice Aa A2.length Ab,.agg #[.int .i64 A3,.string A7]] rfl ml ?_;(with_reducible refine (impl_rowed.calls k _ _ A2 A3 A7 true _ ?side1 hc0_0 h1.out).mono ?_);(case side1=>exact Kd.C_below hr0_0 HB.out);rintro e w4 ⟨rfl,hb⟩;refine ⟨_,rfl,?_⟩;have HB4:=Aside0.mk (below_step HB.out hb);have Ah:=Aside0.mk (blk_below BK.out hb);clear hb HB BK;clear hcz0 hcz1 hcz2 hcz3 hcz4 hcz5 hcz6 hcz7 hcz8 hcz9 hcz10;obtain ⟨hcy0,hcy1,hcy2,hcy3,hcy4,hcy5,hcy6,hcy7,hcy8,hcy9,hcy10⟩:=c11_ Ah)|(go_at_call 64;(try simp only [i64_w,i32_w]);(with_reducible refine (impl_within.calls A4 0 40 true _ h2.out).mono ?_);rintro e w' ⟨rfl,⟨nd,rfl⟩⟩)|(go_at_call 77;(try simp only [i64_w,i32_w]);refine (impl_placeOfBits.calls k _ _ A1 pv true _ ?_ hc0_4 h3.out).mono ?_;exact Kd.C_below hr0_4 (pw_below_drewN HB4.out _);rintro e w' ⟨rfl,⟨nd,rfl⟩⟩)|(go_at_call 64;(try simp only [i64_w,i32_w]);(with_reducible refine (impl_within.calls Ac (-1) 1 true _ h4.out).mono ?_);rintro e w' ⟨rfl,⟨nd,rfl⟩⟩))
   go_ret
   exact ⟨rfl,by repeat (first|(with_reducible first|exact HB4.out|exact HB.out|apply below_alloc|apply pw_below_drewN|apply below_drew1)|exact HB4.out|exact HB.out)⟩
set_option maxHeartbeats 80000000 in
set_option maxRecDepth 100000 in
theorem mok_9 (k:Nat) (r:Bool) (Aa:Option Addr) (Ab:Nat) (A2:List Bool) (A3:Int) (A7:ByteArray) (A4:Int) (Ae:Option Addr) (Af:Nat) (A1:List Int) (Ac:Int) (Ag:Bool) (A8:Int) (A9:Int) (Ad:Int) (A5:Option Addr) (A6:Nat) (A0:List (S86)) (w:World) (hr0_0:Kd.C Kd.bool w Aa A2.length A2) (hc0_0:A2.length≤Ab) (hr0_4:Kd.C (Kd.int .i64) w Ae A1.length A1) (hc0_4:A1.length≤Af) (hr0_10:Kd.C k86 w A5 A0.length A0) (hc0_10:A0.length≤A6) (hz:∀ s∈A0,s.f0.size≤maxLen) (hr:r=(decide (okMemo A0) && okCounts A8 A9 Ad)) (h1:Aside0 (impl_rowed.f k A2 A3 A7=some true)) (h2:Aside0 (impl_within.f A4 0 40=some true)) (gm:decide ((A0.length:Int) > A4)=false) (gv:decide ((A1.length:Int) > A3)=false) (pv:Int) (h3:Aside0 (impl_placeOfBits.f k A1=some (pv,true))) (h4:Aside0 (impl_within.f Ac (-1) 1=some true)) (g6:Ag=false) :
  Calls Try.prog 32 #[.agg #[.slice Aa A2.length Ab,.int .i64 A3,.string A7,.int .i64 A4,.slice Ae A1.length Af,.int .i64 Ac,.bool Ag,.int .i64 A8,.int .i64 A9,.int .i64 Ad,.slice A5 A0.length A6]] w fun e w'=>e = .returned (.bool r)∧Below w.heap.size w w':=by
 have gm1:decide (A4 < (A0.length:Int))=false:=gm;have gv1:decide (A3 < (A1.length:Int))=false:=gv
 subst g6
 have HZ:=Aside0.mk hz;have HR:=Aside0.mk hr0_10
 replace hr:=Aside0.mk hr
 clear hz hr0_10
 go_enter Try.func32,Try.ntmps32
 go_wp2_with (first|((with_reducible refine gate_dst (N:=1) rfl ?_);refine bx (N:=1) (cs:=#[.slice Aa A2.length Ab,.int .i64 A3,.string A7,.int .i64 A4,.slice Ae A1.length Af,.int .i64 Ac,.bool false,.int .i64 A8,.int .i64 A9,.int .i64 Ad,.slice A5 A0.length A6]) (t:=36) ?_;intro gb hg w3 hbox hb;have HB:=Aside0.mk hb;have BK:=Aside0.mk hbox;have GE:=Aside0.mk (by rw [hg];exact Nat.le_refl _:w.heap.size≤gb);clear hb hbox hg;obtain ⟨hcz0,hcz1,hcz2,hcz3,hcz4,hcz5,hcz6,hcz7,hcz8,hcz9,hcz10⟩:=c11_ BK)|((with_reducible refine gate_callee (f:=59) rfl ?_);(try (refine gate_guard (by rfl) ?_;dsimp only));refine goesL_ (some 12) rfl rfl Try.func59 (by kernel_rfl) rfl #[.slice Aa A2.length Ab,.agg #[.int .i64 A3,.string A7]] rfl ml ?_;(with_reducible refine (impl_rowed.calls k _ _ A2 A3 A7 true _ ?side1 hc0_0 h1.out).mono ?_);(case side1=>exact Kd.C_below hr0_0 HB.out);rintro e w4 ⟨rfl,hb⟩;refine ⟨_,rfl,?_⟩;have HB4:=Aside0.mk (below_step HB.out hb);have Ah:=Aside0.mk (blk_below BK.out hb);clear hb HB BK;clear hcz0 hcz1 hcz2 hcz3 hcz4 hcz5 hcz6 hcz7 hcz8 hcz9 hcz10;obtain ⟨hcy0,hcy1,hcy2,hcy3,hcy4,hcy5,hcy6,hcy7,hcy8,hcy9,hcy10⟩:=c11_ Ah)|(go_at_call 64;(try simp only [i64_w,i32_w]);(with_reducible refine (impl_within.calls A4 0 40 true _ h2.out).mono ?_);rintro e w' ⟨rfl,⟨nd,rfl⟩⟩)|(go_at_call 77;(try simp only [i64_w,i32_w]);refine (impl_placeOfBits.calls k _ _ A1 pv true _ ?_ hc0_4 h3.out).mono ?_;exact Kd.C_below hr0_4 (pw_below_drewN HB4.out _);rintro e w' ⟨rfl,⟨nd,rfl⟩⟩)|(go_at_call 64;(try simp only [i64_w,i32_w]);(with_reducible refine (impl_within.calls Ac (-1) 1 true _ h4.out).mono ?_);rintro e w' ⟨rfl,⟨nd,rfl⟩⟩)|((with_reducible refine gate_dst (N:=66) rfl ?_);refine wpList_mkmap (κ:=ByteArray) (P:=Try.prog) (t:=90) ?_ ?_ 9 3 Value.string (fun s=>s.size≤maxLen) ?_;rfl;rfl;intro mb w5 hmb HM0 hb5;have HM:=Aside0.mk HM0;have HB5:=Aside0.mk (below_step (pw_below_drewN HB4.out _) hb5);have Ai:=Aside0.mk (blk_below (blk_drewN Ah.out _) hb5);have MG:=Aside0.mk (by rw [hmb];exact (pw_below_drewN HB4.out _).size:w.heap.size≤mb);clear HM0 hb5 hmb HB4 Ah;clear hcy0 hcy1 hcy2 hcy3 hcy4 hcy5 hcy6 hcy7 hcy8 hcy9 hcy10;obtain ⟨hcx0,hcx1,hcx2,hcx3,hcx4,hcx5,hcx6,hcx7,hcx8,hcx9,hcx10⟩:=c11_ Ai))
 clear hcx0 hcx1 hcx2 hcx3 hcx4 hcx5 hcx6 hcx7 hcx8 hcx9 hcx10
 go_loopg [70] A0.length (fun kq v70 wr=>∃ i:Nat,v70 = .int .i64 i∧Aside0 (i≤A0.length∧kq=A0.length - i)∧Aside0 (∀ j,j < i→okSeen A0 j)∧Aside0 (IsMp Try.prog 9 3 Value.string (fun s=>s.size≤maxLen) wr mb (seenMap A0 i))∧Aside0 (wr.heap[gb]? = some (.cells #[.slice Aa A2.length Ab,.int .i64 A3,.string A7,.int .i64 A4,.slice Ae A1.length Af,.int .i64 Ac,.bool false,.int .i64 A8,.int .i64 A9,.int .i64 Ad,.slice A5 A0.length A6] 36 (0,0)))∧Aside0 (Below w.heap.size w wr))
 case atStart=>exact ⟨0,rfl,⟨by omega,by omega⟩,⟨fun j hj=>by omega⟩,HM,Ai,HB5⟩
 case round =>
  clear HM Ai HB5
  obtain ⟨i,rfl,hi,hall,HM,BK,HB⟩:=hrel
  by_cases hlt:i < A0.length
  ·have hd0:decide (i < A0.length)=true:=decide_eq_true hlt
   have hd1:decide ((i:Int) < (A0.length:Int))=true:=decide_eq_true (by omega)
   have hmx:=(Kd.C_max HR.out)
   obtain ⟨ad,e_,hx0,hx1⟩:=at_T86 HR.out (i:Int) (by omega) (by omega)
   cases e_
   replace hx0:=(HB.out.cell (World.block_lt_of_cell? w _ hx0)).trans hx0
   replace hx1:=(HB.out.cell (World.block_lt_of_cell? w _ hx1)).trans hx1
   rw [Int.toNat_natCast] at hx0 hx1
   have hw4:wrap64 ((i:Int) + 1)=(i:Int) + 1:=by have:=hmx;unfold wrap64;omega
   have hwf:Aside0 ((rd_T86 A0 i).f0.size≤maxLen):=⟨HZ.out _ (by rw [show rd_T86 A0 i=A0[i] from by simp [rd_T86,List.getD_eq_getElem?_getD,List.getElem?_eq_getElem hlt]];exact List.getElem_mem hlt)⟩
   have hml:Aside0 ((seenMap A0 i).length < maxLen):=⟨by have:=hmx;simp [seenMap];unfold maxLen;omega⟩
   clear hmx
   by_cases c0:(rd_T86 A0 i).f1=0∨(rd_T86 A0 i).f1=1
   ·by_cases c5:(rd_T86 A0 i).f0∈((A0.take i).map (fun s=>s.f0):List ByteArray)
    ·have d5:mget (seenMap A0 i) (rd_T86 A0 i).f0=1:=by rw [mget_seen,if_pos c5]
     have c5:=Aside0.mk c5
     rcases c0 with c0|c0
     ·have d0:((rd_T86 A0 i).f1 != 0)=false:=by rw [c0];rfl
      clear c0
      go_wp2_with (first|(at_lookup;(try (refine gate_guard (by rfl) ?_;dsimp only));refine wpList_mget (κ:=ByteArray) (P:=Try.prog) (t:=90) (k:=9) (e:=3) (m:=seenMap A0 i) rfl _ _ rfl strCodec Try.underlying90 Try.underlying3 zeroInt (HM.out.alloc _) rfl (rd_T86 A0 i).f0 rfl hwf.out ?_))
      go_ret
      have hr0:r=false:=by rw [hr.out,decide_eq_false (fun h:okMemo A0=>(h i hlt).2 c5.out)];rfl
      rw [hr0]
      exact ⟨rfl,below_alloc HB.out _⟩
     ·have d0:((rd_T86 A0 i).f1 != 0)=true:=by rw [c0];rfl
      have d1:((rd_T86 A0 i).f1 != 1)=false:=by rw [c0];rfl
      clear c0
      go_wp2_with (first|(at_lookup;(try (refine gate_guard (by rfl) ?_;dsimp only));refine wpList_mget (κ:=ByteArray) (P:=Try.prog) (t:=90) (k:=9) (e:=3) (m:=seenMap A0 i) rfl _ _ rfl strCodec Try.underlying90 Try.underlying3 zeroInt (HM.out.alloc _) rfl (rd_T86 A0 i).f0 rfl hwf.out ?_))
      go_ret
      have hr0:r=false:=by rw [hr.out,decide_eq_false (fun h:okMemo A0=>(h i hlt).2 c5.out)];rfl
      rw [hr0]
      exact ⟨rfl,below_alloc HB.out _⟩
    ·have d5:mget (seenMap A0 i) (rd_T86 A0 i).f0=0:=by rw [mget_seen,if_neg c5]
     have hok:=Aside0.mk (⟨c0,c5⟩:okSeen A0 i);clear c5
     rcases c0 with c0|c0
     ·have d0:((rd_T86 A0 i).f1 != 0)=false:=by rw [c0];rfl
      clear c0
      go_wp2_with (first|(at_lookup;(try (refine gate_guard (by rfl) ?_;dsimp only));refine wpList_mget (κ:=ByteArray) (P:=Try.prog) (t:=90) (k:=9) (e:=3) (m:=seenMap A0 i) rfl _ _ rfl strCodec Try.underlying90 Try.underlying3 zeroInt (HM.out.alloc _) rfl (rd_T86 A0 i).f0 rfl hwf.out ?_)|(at_mapUpdate;refine wpList_mput (κ:=ByteArray) (P:=Try.prog) (t:=90) (k:=9) (e:=3) (m:=seenMap A0 i) rfl _ _ _ rfl strCodec Try.underlying90 Try.underlying3 (HM.out.alloc _) rfl (rd_T86 A0 i).f0 rfl hwf.out 1 rfl (by decide) hml.out ?_;intro w1 hm1 hg1))
      go_roundg (A0.length - (i + 1))
      case measure=>have:=hi.out;omega
      case rel=>exact ⟨i + 1,(by first|rfl|(rw [hw4];rfl)),⟨by have:=hi.out;omega,rfl⟩,⟨fun j hj=>by rcases Nat.lt_succ_iff_lt_or_eq.1 hj with h|rfl;exact hall.out j h;exact hok.out⟩,⟨by rw [seenMap_succ _ _ hlt];exact hm1⟩,⟨blk_grown (blk_alloc BK.out _) hg1 (by intro h_;injection h_ with h_;exact (HM.out.ne BK.out) h_.symm)⟩,⟨pw_below_grown (below_alloc HB.out _) (some mb) (below_alloc HB.out _).size hg1 (fun k_ hk_=>by injection hk_ with hk_;subst hk_;exact MG.out)⟩⟩
     ·have d0:((rd_T86 A0 i).f1 != 0)=true:=by rw [c0];rfl
      have d1:((rd_T86 A0 i).f1 != 1)=false:=by rw [c0];rfl
      clear c0
      go_wp2_with (first|(at_lookup;(try (refine gate_guard (by rfl) ?_;dsimp only));refine wpList_mget (κ:=ByteArray) (P:=Try.prog) (t:=90) (k:=9) (e:=3) (m:=seenMap A0 i) rfl _ _ rfl strCodec Try.underlying90 Try.underlying3 zeroInt (HM.out.alloc _) rfl (rd_T86 A0 i).f0 rfl hwf.out ?_)|(at_mapUpdate;refine wpList_mput (κ:=ByteArray) (P:=Try.prog) (t:=90) (k:=9) (e:=3) (m:=seenMap A0 i) rfl _ _ _ rfl strCodec Try.underlying90 Try.underlying3 (HM.out.alloc _) rfl (rd_T86 A0 i).f0 rfl hwf.out 1 rfl (by decide) hml.out ?_;intro w1 hm1 hg1))
      go_roundg (A0.length - (i + 1))
      case measure=>have:=hi.out;omega
      case rel=>exact ⟨i + 1,(by first|rfl|(rw [hw4];rfl)),⟨by have:=hi.out;omega,rfl⟩,⟨fun j hj=>by rcases Nat.lt_succ_iff_lt_or_eq.1 hj with h|rfl;exact hall.out j h;exact hok.out⟩,⟨by rw [seenMap_succ _ _ hlt];exact hm1⟩,⟨blk_grown (blk_alloc BK.out _) hg1 (by intro h_;injection h_ with h_;exact (HM.out.ne BK.out) h_.symm)⟩,⟨pw_below_grown (below_alloc HB.out _) (some mb) (below_alloc HB.out _).size hg1 (fun k_ hk_=>by injection hk_ with hk_;subst hk_;exact MG.out)⟩⟩
   ·have d0:((rd_T86 A0 i).f1 != 0)=true:=bne_iff_ne.2 (fun h=>c0 (.inl h))
    have d1:((rd_T86 A0 i).f1 != 1)=true:=bne_iff_ne.2 (fun h=>c0 (.inr h))
    have c0:=Aside0.mk c0
    go_wp2
    go_ret
    have hr0:r=false:=by rw [hr.out,decide_eq_false (fun h:okMemo A0=>c0.out (h i hlt).1)];rfl
    rw [hr0]
    exact ⟨rfl,below_alloc HB.out _⟩
  ·have hd0:decide (i < A0.length)=false:=decide_eq_false hlt
   have hd1:decide ((i:Int) < (A0.length:Int))=false:=decide_eq_false (by omega)
   have hM:=Aside0.mk (fun j hj=>hall.out j (by omega):okMemo A0)
   have hcz6:wr.cell? ⟨gb,7,none⟩=some (.int .i64 A8):=(blk_cell BK.out 7).trans rfl;have hcz7:wr.cell? ⟨gb,8,none⟩=some (.int .i64 A9):=(blk_cell BK.out 8).trans rfl;have hcz8:wr.cell? ⟨gb,9,none⟩=some (.int .i64 Ad):=(blk_cell BK.out 9).trans rfl
   obtain ⟨b7,e7⟩:∃ b,b=decide (0≤A8∧A8≤1000000000):=⟨_,rfl⟩
   have h7:=Aside0.mk ((isCount_eq A8).trans (by rw [← e7]):impl_isCount.f A8=some b7)
   cases b7 with
      | false =>
    replace e7:=Aside0.mk e7
    go_wp2_with (first|(go_at_call 78;(try simp only [i64_w,i32_w]);(with_reducible refine (impl_isCount.calls A8 false _ h7.out).mono ?_);rintro e w' ⟨rfl,⟨nd,rfl⟩⟩))
    go_ret
    have hr0:r=false:=by rw [hr.out,(decide_eq_true hM.out:decide (okMemo A0)=true)];simp [okCounts,← e7.out]
    rw [hr0]
    exact ⟨rfl,by repeat (first|(with_reducible first|exact HB.out|apply pw_below_drewN)|exact HB.out)⟩
      | true =>
    replace e7:=Aside0.mk e7
    obtain ⟨b8,e8⟩:∃ b,b=decide (0≤A9∧A9≤1000000000):=⟨_,rfl⟩
    have h8:=Aside0.mk ((isCount_eq A9).trans (by rw [← e8]):impl_isCount.f A9=some b8)
    cases b8 with
        | false =>
     replace e8:=Aside0.mk e8
     go_wp2_with (first|(go_at_call 78;(try simp only [i64_w,i32_w]);(with_reducible refine (impl_isCount.calls A8 true _ h7.out).mono ?_);rintro e w' ⟨rfl,⟨nd,rfl⟩⟩)|(go_at_call 78;(try simp only [i64_w,i32_w]);(with_reducible refine (impl_isCount.calls A9 false _ h8.out).mono ?_);rintro e w' ⟨rfl,⟨nd,rfl⟩⟩))
     go_ret
     have hr0:r=false:=by rw [hr.out,(decide_eq_true hM.out:decide (okMemo A0)=true)];simp [okCounts,← e7.out,← e8.out]
     rw [hr0]
     exact ⟨rfl,by repeat (first|(with_reducible first|exact HB.out|apply pw_below_drewN)|exact HB.out)⟩
        | true =>
     replace e8:=Aside0.mk e8
     obtain ⟨b9,e9⟩:∃ b,b=decide (0≤Ad∧Ad≤1000000000):=⟨_,rfl⟩
     have h9:=Aside0.mk ((isCount_eq Ad).trans (by rw [← e9]):impl_isCount.f Ad=some b9)
     cases b9 with
          | false =>
      replace e9:=Aside0.mk e9
      go_wp2_with (first|(go_at_call 78;(try simp only [i64_w,i32_w]);(with_reducible refine (impl_isCount.calls A8 true _ h7.out).mono ?_);rintro e w' ⟨rfl,⟨nd,rfl⟩⟩)|(go_at_call 78;(try simp only [i64_w,i32_w]);(with_reducible refine (impl_isCount.calls A9 true _ h8.out).mono ?_);rintro e w' ⟨rfl,⟨nd,rfl⟩⟩)|(go_at_call 78;(try simp only [i64_w,i32_w]);(with_reducible refine (impl_isCount.calls Ad false _ h9.out).mono ?_);rintro e w' ⟨rfl,⟨nd,rfl⟩⟩))
      go_ret
      have hr0:r=false:=by rw [hr.out,(decide_eq_true hM.out:decide (okMemo A0)=true)];simp [okCounts,← e7.out,← e8.out,← e9.out]
      rw [hr0]
      exact ⟨rfl,by repeat (first|(with_reducible first|exact HB.out|apply pw_below_drewN)|exact HB.out)⟩
          | true =>
      replace e9:=Aside0.mk e9
      go_wp2_with (first|(go_at_call 78;(try simp only [i64_w,i32_w]);(with_reducible refine (impl_isCount.calls A8 true _ h7.out).mono ?_);rintro e w' ⟨rfl,⟨nd,rfl⟩⟩)|(go_at_call 78;(try simp only [i64_w,i32_w]);(with_reducible refine (impl_isCount.calls A9 true _ h8.out).mono ?_);rintro e w' ⟨rfl,⟨nd,rfl⟩⟩)|(go_at_call 78;(try simp only [i64_w,i32_w]);(with_reducible refine (impl_isCount.calls Ad true _ h9.out).mono ?_);rintro e w' ⟨rfl,⟨nd,rfl⟩⟩))
      go_ret
      have hr0:r=true:=by rw [hr.out,(decide_eq_true hM.out:decide (okMemo A0)=true)];simp [okCounts,← e7.out,← e8.out,← e9.out]
      rw [hr0]
      exact ⟨rfl,by repeat (first|(with_reducible first|exact HB.out|apply pw_below_drewN)|exact HB.out)⟩
set_option maxHeartbeats 80000000 in
set_option maxRecDepth 100000 in
theorem mok_10 (k:Nat) (r:Bool) (Aa:Option Addr) (Ab:Nat) (A2:List Bool) (A3:Int) (A7:ByteArray) (A4:Int) (Ae:Option Addr) (Af:Nat) (A1:List Int) (Ac:Int) (Ag:Bool) (A8:Int) (A9:Int) (Ad:Int) (A5:Option Addr) (A6:Nat) (A0:List (S86)) (w:World) (hr0_0:Kd.C Kd.bool w Aa A2.length A2) (hc0_0:A2.length≤Ab) (hr0_4:Kd.C (Kd.int .i64) w Ae A1.length A1) (hc0_4:A1.length≤Af) (hr0_10:Kd.C k86 w A5 A0.length A0) (hc0_10:A0.length≤A6) (hz:∀ s∈A0,s.f0.size≤maxLen) (hr:r=(decide (okMemo A0) && okCounts A8 A9 Ad)) (h1:Aside0 (impl_rowed.f k A2 A3 A7=some true)) (h2:Aside0 (impl_within.f A4 0 40=some true)) (gm:decide ((A0.length:Int) > A4)=false) (gv:decide ((A1.length:Int) > A3)=false) (pv:Int) (h3:Aside0 (impl_placeOfBits.f k A1=some (pv,true))) (h4:Aside0 (impl_within.f Ac (-1) 1=some true)) (g6:Ag=true) (g5:decide (Ac < 0)=false) (gz:decide ((A1.length:Int) > 0)=false) :
  Calls Try.prog 32 #[.agg #[.slice Aa A2.length Ab,.int .i64 A3,.string A7,.int .i64 A4,.slice Ae A1.length Af,.int .i64 Ac,.bool Ag,.int .i64 A8,.int .i64 A9,.int .i64 Ad,.slice A5 A0.length A6]] w fun e w'=>e = .returned (.bool r)∧Below w.heap.size w w':=by
 have gm1:decide (A4 < (A0.length:Int))=false:=gm;have gv1:decide (A3 < (A1.length:Int))=false:=gv;have gz1:decide (0 < (A1.length:Int))=false:=gz
 have gz2:decide (0 < A1.length)=false:=by rw [← gz1];exact decide_eq_decide.2 (by omega)
 subst g6
 have HZ:=Aside0.mk hz;have HR:=Aside0.mk hr0_10
 replace hr:=Aside0.mk hr
 clear hz hr0_10
 go_enter Try.func32,Try.ntmps32
 go_wp2_with (first|((with_reducible refine gate_dst (N:=1) rfl ?_);refine bx (N:=1) (cs:=#[.slice Aa A2.length Ab,.int .i64 A3,.string A7,.int .i64 A4,.slice Ae A1.length Af,.int .i64 Ac,.bool true,.int .i64 A8,.int .i64 A9,.int .i64 Ad,.slice A5 A0.length A6]) (t:=36) ?_;intro gb hg w3 hbox hb;have HB:=Aside0.mk hb;have BK:=Aside0.mk hbox;have GE:=Aside0.mk (by rw [hg];exact Nat.le_refl _:w.heap.size≤gb);clear hb hbox hg;obtain ⟨hcz0,hcz1,hcz2,hcz3,hcz4,hcz5,hcz6,hcz7,hcz8,hcz9,hcz10⟩:=c11_ BK)|((with_reducible refine gate_callee (f:=59) rfl ?_);(try (refine gate_guard (by rfl) ?_;dsimp only));refine goesL_ (some 12) rfl rfl Try.func59 (by kernel_rfl) rfl #[.slice Aa A2.length Ab,.agg #[.int .i64 A3,.string A7]] rfl ml ?_;(with_reducible refine (impl_rowed.calls k _ _ A2 A3 A7 true _ ?side1 hc0_0 h1.out).mono ?_);(case side1=>exact Kd.C_below hr0_0 HB.out);rintro e w4 ⟨rfl,hb⟩;refine ⟨_,rfl,?_⟩;have HB4:=Aside0.mk (below_step HB.out hb);have Ah:=Aside0.mk (blk_below BK.out hb);clear hb HB BK;clear hcz0 hcz1 hcz2 hcz3 hcz4 hcz5 hcz6 hcz7 hcz8 hcz9 hcz10;obtain ⟨hcy0,hcy1,hcy2,hcy3,hcy4,hcy5,hcy6,hcy7,hcy8,hcy9,hcy10⟩:=c11_ Ah)|(go_at_call 64;(try simp only [i64_w,i32_w]);(with_reducible refine (impl_within.calls A4 0 40 true _ h2.out).mono ?_);rintro e w' ⟨rfl,⟨nd,rfl⟩⟩)|(go_at_call 77;(try simp only [i64_w,i32_w]);refine (impl_placeOfBits.calls k _ _ A1 pv true _ ?_ hc0_4 h3.out).mono ?_;exact Kd.C_below hr0_4 (pw_below_drewN HB4.out _);rintro e w' ⟨rfl,⟨nd,rfl⟩⟩)|(go_at_call 64;(try simp only [i64_w,i32_w]);(with_reducible refine (impl_within.calls Ac (-1) 1 true _ h4.out).mono ?_);rintro e w' ⟨rfl,⟨nd,rfl⟩⟩)|((with_reducible refine gate_dst (N:=66) rfl ?_);refine wpList_mkmap (κ:=ByteArray) (P:=Try.prog) (t:=90) ?_ ?_ 9 3 Value.string (fun s=>s.size≤maxLen) ?_;rfl;rfl;intro mb w5 hmb HM0 hb5;have HM:=Aside0.mk HM0;have HB5:=Aside0.mk (below_step (pw_below_drewN HB4.out _) hb5);have Ai:=Aside0.mk (blk_below (blk_drewN Ah.out _) hb5);have MG:=Aside0.mk (by rw [hmb];exact (pw_below_drewN HB4.out _).size:w.heap.size≤mb);clear HM0 hb5 hmb HB4 Ah;clear hcy0 hcy1 hcy2 hcy3 hcy4 hcy5 hcy6 hcy7 hcy8 hcy9 hcy10;obtain ⟨hcx0,hcx1,hcx2,hcx3,hcx4,hcx5,hcx6,hcx7,hcx8,hcx9,hcx10⟩:=c11_ Ai))
 clear hcx0 hcx1 hcx2 hcx3 hcx4 hcx5 hcx6 hcx7 hcx8 hcx9 hcx10
 go_loopg [70] A0.length (fun kq v70 wr=>∃ i:Nat,v70 = .int .i64 i∧Aside0 (i≤A0.length∧kq=A0.length - i)∧Aside0 (∀ j,j < i→okSeen A0 j)∧Aside0 (IsMp Try.prog 9 3 Value.string (fun s=>s.size≤maxLen) wr mb (seenMap A0 i))∧Aside0 (wr.heap[gb]? = some (.cells #[.slice Aa A2.length Ab,.int .i64 A3,.string A7,.int .i64 A4,.slice Ae A1.length Af,.int .i64 Ac,.bool true,.int .i64 A8,.int .i64 A9,.int .i64 Ad,.slice A5 A0.length A6] 36 (0,0)))∧Aside0 (Below w.heap.size w wr))
 case atStart=>exact ⟨0,rfl,⟨by omega,by omega⟩,⟨fun j hj=>by omega⟩,HM,Ai,HB5⟩
 case round =>
  clear HM Ai HB5
  obtain ⟨i,rfl,hi,hall,HM,BK,HB⟩:=hrel
  by_cases hlt:i < A0.length
  ·have hd0:decide (i < A0.length)=true:=decide_eq_true hlt
   have hd1:decide ((i:Int) < (A0.length:Int))=true:=decide_eq_true (by omega)
   have hmx:=(Kd.C_max HR.out)
   obtain ⟨ad,e_,hx0,hx1⟩:=at_T86 HR.out (i:Int) (by omega) (by omega)
   cases e_
   replace hx0:=(HB.out.cell (World.block_lt_of_cell? w _ hx0)).trans hx0
   replace hx1:=(HB.out.cell (World.block_lt_of_cell? w _ hx1)).trans hx1
   rw [Int.toNat_natCast] at hx0 hx1
   have hw4:wrap64 ((i:Int) + 1)=(i:Int) + 1:=by have:=hmx;unfold wrap64;omega
   have hwf:Aside0 ((rd_T86 A0 i).f0.size≤maxLen):=⟨HZ.out _ (by rw [show rd_T86 A0 i=A0[i] from by simp [rd_T86,List.getD_eq_getElem?_getD,List.getElem?_eq_getElem hlt]];exact List.getElem_mem hlt)⟩
   have hml:Aside0 ((seenMap A0 i).length < maxLen):=⟨by have:=hmx;simp [seenMap];unfold maxLen;omega⟩
   clear hmx
   by_cases c0:(rd_T86 A0 i).f1=0∨(rd_T86 A0 i).f1=1
   ·by_cases c5:(rd_T86 A0 i).f0∈((A0.take i).map (fun s=>s.f0):List ByteArray)
    ·have d5:mget (seenMap A0 i) (rd_T86 A0 i).f0=1:=by rw [mget_seen,if_pos c5]
     have c5:=Aside0.mk c5
     rcases c0 with c0|c0
     ·have d0:((rd_T86 A0 i).f1 != 0)=false:=by rw [c0];rfl
      clear c0
      go_wp2_with (first|(at_lookup;(try (refine gate_guard (by rfl) ?_;dsimp only));refine wpList_mget (κ:=ByteArray) (P:=Try.prog) (t:=90) (k:=9) (e:=3) (m:=seenMap A0 i) rfl _ _ rfl strCodec Try.underlying90 Try.underlying3 zeroInt (HM.out.alloc _) rfl (rd_T86 A0 i).f0 rfl hwf.out ?_))
      go_ret
      have hr0:r=false:=by rw [hr.out,decide_eq_false (fun h:okMemo A0=>(h i hlt).2 c5.out)];rfl
      rw [hr0]
      exact ⟨rfl,below_alloc HB.out _⟩
     ·have d0:((rd_T86 A0 i).f1 != 0)=true:=by rw [c0];rfl
      have d1:((rd_T86 A0 i).f1 != 1)=false:=by rw [c0];rfl
      clear c0
      go_wp2_with (first|(at_lookup;(try (refine gate_guard (by rfl) ?_;dsimp only));refine wpList_mget (κ:=ByteArray) (P:=Try.prog) (t:=90) (k:=9) (e:=3) (m:=seenMap A0 i) rfl _ _ rfl strCodec Try.underlying90 Try.underlying3 zeroInt (HM.out.alloc _) rfl (rd_T86 A0 i).f0 rfl hwf.out ?_))
      go_ret
      have hr0:r=false:=by rw [hr.out,decide_eq_false (fun h:okMemo A0=>(h i hlt).2 c5.out)];rfl
      rw [hr0]
      exact ⟨rfl,below_alloc HB.out _⟩
    ·have d5:mget (seenMap A0 i) (rd_T86 A0 i).f0=0:=by rw [mget_seen,if_neg c5]
     have hok:=Aside0.mk (⟨c0,c5⟩:okSeen A0 i);clear c5
     rcases c0 with c0|c0
     ·have d0:((rd_T86 A0 i).f1 != 0)=false:=by rw [c0];rfl
      clear c0
      go_wp2_with (first|(at_lookup;(try (refine gate_guard (by rfl) ?_;dsimp only));refine wpList_mget (κ:=ByteArray) (P:=Try.prog) (t:=90) (k:=9) (e:=3) (m:=seenMap A0 i) rfl _ _ rfl strCodec Try.underlying90 Try.underlying3 zeroInt (HM.out.alloc _) rfl (rd_T86 A0 i).f0 rfl hwf.out ?_)|(at_mapUpdate;refine wpList_mput (κ:=ByteArray) (P:=Try.prog) (t:=90) (k:=9) (e:=3) (m:=seenMap A0 i) rfl _ _ _ rfl strCodec Try.underlying90 Try.underlying3 (HM.out.alloc _) rfl (rd_T86 A0 i).f0 rfl hwf.out 1 rfl (by decide) hml.out ?_;intro w1 hm1 hg1))
      go_roundg (A0.length - (i + 1))
      case measure=>have:=hi.out;omega
      case rel=>exact ⟨i + 1,(by first|rfl|(rw [hw4];rfl)),⟨by have:=hi.out;omega,rfl⟩,⟨fun j hj=>by rcases Nat.lt_succ_iff_lt_or_eq.1 hj with h|rfl;exact hall.out j h;exact hok.out⟩,⟨by rw [seenMap_succ _ _ hlt];exact hm1⟩,⟨blk_grown (blk_alloc BK.out _) hg1 (by intro h_;injection h_ with h_;exact (HM.out.ne BK.out) h_.symm)⟩,⟨pw_below_grown (below_alloc HB.out _) (some mb) (below_alloc HB.out _).size hg1 (fun k_ hk_=>by injection hk_ with hk_;subst hk_;exact MG.out)⟩⟩
     ·have d0:((rd_T86 A0 i).f1 != 0)=true:=by rw [c0];rfl
      have d1:((rd_T86 A0 i).f1 != 1)=false:=by rw [c0];rfl
      clear c0
      go_wp2_with (first|(at_lookup;(try (refine gate_guard (by rfl) ?_;dsimp only));refine wpList_mget (κ:=ByteArray) (P:=Try.prog) (t:=90) (k:=9) (e:=3) (m:=seenMap A0 i) rfl _ _ rfl strCodec Try.underlying90 Try.underlying3 zeroInt (HM.out.alloc _) rfl (rd_T86 A0 i).f0 rfl hwf.out ?_)|(at_mapUpdate;refine wpList_mput (κ:=ByteArray) (P:=Try.prog) (t:=90) (k:=9) (e:=3) (m:=seenMap A0 i) rfl _ _ _ rfl strCodec Try.underlying90 Try.underlying3 (HM.out.alloc _) rfl (rd_T86 A0 i).f0 rfl hwf.out 1 rfl (by decide) hml.out ?_;intro w1 hm1 hg1))
      go_roundg (A0.length - (i + 1))
      case measure=>have:=hi.out;omega
      case rel=>exact ⟨i + 1,(by first|rfl|(rw [hw4];rfl)),⟨by have:=hi.out;omega,rfl⟩,⟨fun j hj=>by rcases Nat.lt_succ_iff_lt_or_eq.1 hj with h|rfl;exact hall.out j h;exact hok.out⟩,⟨by rw [seenMap_succ _ _ hlt];exact hm1⟩,⟨blk_grown (blk_alloc BK.out _) hg1 (by intro h_;injection h_ with h_;exact (HM.out.ne BK.out) h_.symm)⟩,⟨pw_below_grown (below_alloc HB.out _) (some mb) (below_alloc HB.out _).size hg1 (fun k_ hk_=>by injection hk_ with hk_;subst hk_;exact MG.out)⟩⟩
   ·have d0:((rd_T86 A0 i).f1 != 0)=true:=bne_iff_ne.2 (fun h=>c0 (.inl h))
    have d1:((rd_T86 A0 i).f1 != 1)=true:=bne_iff_ne.2 (fun h=>c0 (.inr h))
    have c0:=Aside0.mk c0
    go_wp2
    go_ret
    have hr0:r=false:=by rw [hr.out,decide_eq_false (fun h:okMemo A0=>c0.out (h i hlt).1)];rfl
    rw [hr0]
    exact ⟨rfl,below_alloc HB.out _⟩
  ·have hd0:decide (i < A0.length)=false:=decide_eq_false hlt
   have hd1:decide ((i:Int) < (A0.length:Int))=false:=decide_eq_false (by omega)
   have hM:=Aside0.mk (fun j hj=>hall.out j (by omega):okMemo A0)
   have hcz6:wr.cell? ⟨gb,7,none⟩=some (.int .i64 A8):=(blk_cell BK.out 7).trans rfl;have hcz7:wr.cell? ⟨gb,8,none⟩=some (.int .i64 A9):=(blk_cell BK.out 8).trans rfl;have hcz8:wr.cell? ⟨gb,9,none⟩=some (.int .i64 Ad):=(blk_cell BK.out 9).trans rfl
   obtain ⟨b7,e7⟩:∃ b,b=decide (0≤A8∧A8≤1000000000):=⟨_,rfl⟩
   have h7:=Aside0.mk ((isCount_eq A8).trans (by rw [← e7]):impl_isCount.f A8=some b7)
   cases b7 with
      | false =>
    replace e7:=Aside0.mk e7
    go_wp2_with (first|(go_at_call 78;(try simp only [i64_w,i32_w]);(with_reducible refine (impl_isCount.calls A8 false _ h7.out).mono ?_);rintro e w' ⟨rfl,⟨nd,rfl⟩⟩))
    go_ret
    have hr0:r=false:=by rw [hr.out,(decide_eq_true hM.out:decide (okMemo A0)=true)];simp [okCounts,← e7.out]
    rw [hr0]
    exact ⟨rfl,by repeat (first|(with_reducible first|exact HB.out|apply pw_below_drewN)|exact HB.out)⟩
      | true =>
    replace e7:=Aside0.mk e7
    obtain ⟨b8,e8⟩:∃ b,b=decide (0≤A9∧A9≤1000000000):=⟨_,rfl⟩
    have h8:=Aside0.mk ((isCount_eq A9).trans (by rw [← e8]):impl_isCount.f A9=some b8)
    cases b8 with
        | false =>
     replace e8:=Aside0.mk e8
     go_wp2_with (first|(go_at_call 78;(try simp only [i64_w,i32_w]);(with_reducible refine (impl_isCount.calls A8 true _ h7.out).mono ?_);rintro e w' ⟨rfl,⟨nd,rfl⟩⟩)|(go_at_call 78;(try simp only [i64_w,i32_w]);(with_reducible refine (impl_isCount.calls A9 false _ h8.out).mono ?_);rintro e w' ⟨rfl,⟨nd,rfl⟩⟩))
     go_ret
     have hr0:r=false:=by rw [hr.out,(decide_eq_true hM.out:decide (okMemo A0)=true)];simp [okCounts,← e7.out,← e8.out]
     rw [hr0]
     exact ⟨rfl,by repeat (first|(with_reducible first|exact HB.out|apply pw_below_drewN)|exact HB.out)⟩
        | true =>
     replace e8:=Aside0.mk e8
     obtain ⟨b9,e9⟩:∃ b,b=decide (0≤Ad∧Ad≤1000000000):=⟨_,rfl⟩
     have h9:=Aside0.mk ((isCount_eq Ad).trans (by rw [← e9]):impl_isCount.f Ad=some b9)
     cases b9 with
          | false =>
      replace e9:=Aside0.mk e9
      go_wp2_with (first|(go_at_call 78;(try simp only [i64_w,i32_w]);(with_reducible refine (impl_isCount.calls A8 true _ h7.out).mono ?_);rintro e w' ⟨rfl,⟨nd,rfl⟩⟩)|(go_at_call 78;(try simp only [i64_w,i32_w]);(with_reducible refine (impl_isCount.calls A9 true _ h8.out).mono ?_);rintro e w' ⟨rfl,⟨nd,rfl⟩⟩)|(go_at_call 78;(try simp only [i64_w,i32_w]);(with_reducible refine (impl_isCount.calls Ad false _ h9.out).mono ?_);rintro e w' ⟨rfl,⟨nd,rfl⟩⟩))
      go_ret
      have hr0:r=false:=by rw [hr.out,(decide_eq_true hM.out:decide (okMemo A0)=true)];simp [okCounts,← e7.out,← e8.out,← e9.out]
      rw [hr0]
      exact ⟨rfl,by repeat (first|(with_reducible first|exact HB.out|apply pw_below_drewN)|exact HB.out)⟩
          | true =>
      replace e9:=Aside0.mk e9
      go_wp2_with (first|(go_at_call 78;(try simp only [i64_w,i32_w]);(with_reducible refine (impl_isCount.calls A8 true _ h7.out).mono ?_);rintro e w' ⟨rfl,⟨nd,rfl⟩⟩)|(go_at_call 78;(try simp only [i64_w,i32_w]);(with_reducible refine (impl_isCount.calls A9 true _ h8.out).mono ?_);rintro e w' ⟨rfl,⟨nd,rfl⟩⟩)|(go_at_call 78;(try simp only [i64_w,i32_w]);(with_reducible refine (impl_isCount.calls Ad true _ h9.out).mono ?_);rintro e w' ⟨rfl,⟨nd,rfl⟩⟩))
      go_ret
      have hr0:r=true:=by rw [hr.out,(decide_eq_true hM.out:decide (okMemo A0)=true)];simp [okCounts,← e7.out,← e8.out,← e9.out]
      rw [hr0]
      exact ⟨rfl,by repeat (first|(with_reducible first|exact HB.out|apply pw_below_drewN)|exact HB.out)⟩
theorem impl_MachineOk.calls (k:Nat) (Aa:Option Addr) (Ab:Nat) (A2:List Bool) (A3:Int) (A7:ByteArray) (A4:Int) (Ae:Option Addr) (Af:Nat) (A1:List Int) (Ac:Int) (Ag:Bool) (A8:Int) (A9:Int) (Ad:Int) (A5:Option Addr) (A6:Nat) (A0:List (S86)) (r:Bool) (w:World) (hr0_0:Kd.C Kd.bool w Aa A2.length A2) (hc0_0:A2.length≤Ab) (hr0_4:Kd.C (Kd.int .i64) w Ae A1.length A1) (hc0_4:A1.length≤Af) (hr0_10:Kd.C k86 w A5 A0.length A0) (hc0_10:A0.length≤A6) (h:impl_MachineOk.f k A2 A3 A7 A4 A1 Ac Ag A8 A9 Ad A0=some r) :
  Calls Try.prog 32 #[.agg #[.slice Aa A2.length Ab,.int .i64 A3,.string A7,.int .i64 A4,.slice Ae A1.length Af,.int .i64 Ac,.bool Ag,.int .i64 A8,.int .i64 A9,.int .i64 Ad,.slice A5 A0.length A6]] w fun e w'=>e = .returned (.bool r)∧Below w.heap.size w w':=by
 unfold impl_MachineOk.f at h
 split at h
 ·rename_i hz
  obtain ⟨b1,h1,h⟩:=Option.bind_eq_some_iff.1 h
  obtain ⟨⟨pv,b3⟩,h3,h⟩:=Option.bind_eq_some_iff.1 h
  have h:=(Option.some.inj h).symm;have e2:=within_eq A4 0 40;have e4:=within_eq Ac (-1) 1
  have no:r=false→Calls Try.prog 32 #[.agg #[.slice Aa A2.length Ab,.int .i64 A3,.string A7,.int .i64 A4,.slice Ae A1.length Af,.int .i64 Ac,.bool Ag,.int .i64 A8,.int .i64 A9,.int .i64 Ad,.slice A5 A0.length A6]] w (fun e w'=>e = .returned (.bool false)∧Below w.heap.size w w')→Calls Try.prog 32 #[.agg #[.slice Aa A2.length Ab,.int .i64 A3,.string A7,.int .i64 A4,.slice Ae A1.length Af,.int .i64 Ac,.bool Ag,.int .i64 A8,.int .i64 A9,.int .i64 Ad,.slice A5 A0.length A6]] w fun e w'=>e = .returned (.bool r)∧Below w.heap.size w w':=fun hr hc=>by rw [hr];exact hc
  cases b1 with
    | false=>exact no (by rw [h];rfl) (mok_1 k Aa Ab A2 A3 A7 A4 Ae Af A1 Ac Ag A8 A9 Ad A5 A6 A0 w hr0_0 hc0_0 hr0_4 hc0_4 hr0_10 hc0_10 ⟨h1⟩)
    | true =>
   simp only [Bool.true_and] at h
   unfold okFront at h
   cases c2:decide (0≤A4∧A4≤40) with
      | false=>exact no (by rw [h,c2];rfl) (mok_2 k Aa Ab A2 A3 A7 A4 Ae Af A1 Ac Ag A8 A9 Ad A5 A6 A0 w hr0_0 hc0_0 hr0_4 hc0_4 hr0_10 hc0_10 ⟨h1⟩ ⟨e2.trans (by rw [c2])⟩)
      | true =>
    rw [c2] at e2
    cases c3:decide ((A0.length:Int) > A4) with
        | true=>exact no (by rw [h,c2,c3];rfl) (mok_3 k Aa Ab A2 A3 A7 A4 Ae Af A1 Ac Ag A8 A9 Ad A5 A6 A0 w hr0_0 hc0_0 hr0_4 hc0_4 hr0_10 hc0_10 ⟨h1⟩ ⟨e2⟩ c3)
        | false =>
     cases c4:decide ((A1.length:Int) > A3) with
          | true=>exact no (by rw [h,c2,c3,c4];rfl) (mok_4 k Aa Ab A2 A3 A7 A4 Ae Af A1 Ac Ag A8 A9 Ad A5 A6 A0 w hr0_0 hc0_0 hr0_4 hc0_4 hr0_10 hc0_10 ⟨h1⟩ ⟨e2⟩ c3 c4)
          | false =>
      rw [c2,c3,c4] at h
      simp only [Bool.not_false,Bool.true_and] at h
      cases b3 with
            | false=>exact no (by rw [h];rfl) (mok_5 k Aa Ab A2 A3 A7 A4 Ae Af A1 Ac Ag A8 A9 Ad A5 A6 A0 w hr0_0 hc0_0 hr0_4 hc0_4 hr0_10 hc0_10 ⟨h1⟩ ⟨e2⟩ c3 c4 pv ⟨h3⟩)
            | true =>
       simp only [Bool.true_and] at h
       unfold okRet at h
       cases c5:decide (-1≤Ac∧Ac≤1) with
              | false=>exact no (by rw [h,c5];rfl) (mok_6 k Aa Ab A2 A3 A7 A4 Ae Af A1 Ac Ag A8 A9 Ad A5 A6 A0 w hr0_0 hc0_0 hr0_4 hc0_4 hr0_10 hc0_10 ⟨h1⟩ ⟨e2⟩ c3 c4 pv ⟨h3⟩ ⟨e4.trans (by rw [c5])⟩)
              | true =>
        rw [c5] at e4 h
        simp only [Bool.true_and] at h
        cases c6:Ag with
                | false =>
         rw [c6] at h
         simp only [Bool.false_and,Bool.not_false,Bool.true_and] at h
         rw [← c6]
         exact mok_9 k r Aa Ab A2 A3 A7 A4 Ae Af A1 Ac Ag A8 A9 Ad A5 A6 A0 w hr0_0 hc0_0 hr0_4 hc0_4 hr0_10 hc0_10 hz h ⟨h1⟩ ⟨e2⟩ c3 c4 pv ⟨h3⟩ ⟨e4⟩ c6
                | true =>
         rw [c6] at h
         simp only [Bool.true_and] at h
         rw [← c6]
         cases c7:decide (Ac < 0) with
                  | true=>exact no (by rw [h,c7];rfl) (mok_7 k Aa Ab A2 A3 A7 A4 Ae Af A1 Ac Ag A8 A9 Ad A5 A6 A0 w hr0_0 hc0_0 hr0_4 hc0_4 hr0_10 hc0_10 ⟨h1⟩ ⟨e2⟩ c3 c4 pv ⟨h3⟩ ⟨e4⟩ c6 c7)
                  | false =>
          cases c8:decide ((A1.length:Int) > 0) with
                    | true=>exact no (by rw [h,c7,c8];rfl) (mok_8 k Aa Ab A2 A3 A7 A4 Ae Af A1 Ac Ag A8 A9 Ad A5 A6 A0 w hr0_0 hc0_0 hr0_4 hc0_4 hr0_10 hc0_10 ⟨h1⟩ ⟨e2⟩ c3 c4 pv ⟨h3⟩ ⟨e4⟩ c6 c7 c8)
                    | false =>
           rw [c7,c8] at h
           exact mok_10 k r Aa Ab A2 A3 A7 A4 Ae Af A1 Ac Ag A8 A9 Ad A5 A6 A0 w hr0_0 hc0_0 hr0_4 hc0_4 hr0_10 hc0_10 hz h ⟨h1⟩ ⟨e2⟩ c3 c4 pv ⟨h3⟩ ⟨e4⟩ c6 c7 c8
 ·cases h
end Go.Proofs.Ytlpfmhikahlcoaa.G
