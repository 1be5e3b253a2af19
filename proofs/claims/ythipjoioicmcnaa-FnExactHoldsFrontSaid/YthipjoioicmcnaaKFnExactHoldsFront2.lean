-- texts of this session, merged by a program of it (wip/gen/pack.py)
import Derived.Test.YthipjoioicmcnaaKFnExactHoldsFront1
import Derived.Test.YthipjoioicmcnaaProg
import Derived.Below
import Derived.Deep.Draws
import Derived.Deep.AppendLies
import Derived.Maps.AppendAt
import Derived.OwnWalk
import Derived.Laws.BytesArg
import Derived.Laws.MakeOwn
import Derived.Laws.OwnMore
import Derived.Deep.OwnRows
import Derived.Tactics
import Derived.Lib.ConvBytes
import Derived.Laws.Slices
import Derived.WalkKit
import Derived.KernelRfl
import Derived.RowKit3
import Derived.Deep.LoopGhost
import Derived.Deep.QuietTactic
import Derived.BigQuiet
import Derived.WideLaws
import Derived.Deep.DeepCutAuto
import Derived.Deep.CutBlock
import Derived.Deep.RegionHeld3
import Derived.Laws.Rows
import Derived.Lib.AppendStr
import Derived.ArgAppend
import Derived.Laws.IdiomCopy
import Derived.OrdersHeld
import Derived.Laws.BitsLemmas
import Derived.RowKit
import Derived.Shelf.Strings.Search3
import Derived.Shelf.Strings.Count
import Derived.Lib.IndexAny
namespace Go.Proofs.YthipjoioicmcnaaW.PrintWords
theorem Reps.one {α:Type} {R:α→List Value→Prop} {ps:List α} {cs:List Value} {p:α} {v:Value} (hp:R p [v]) (h:Reps R 1 ps cs):Reps R 1 (p :: ps) (v :: cs):=by
 refine ⟨by simp [h.1],fun j q hq=>?_⟩
 cases j with
 | zero =>
  simp only [List.getElem?_cons_zero,Option.some.injEq] at hq
  subst hq
  simpa using hp
 | succ j =>
  simp only [List.getElem?_cons_succ] at hq
  have h1:=h.2 j q hq
  simpa [Nat.mul_one] using h1
theorem Reps.front {α:Type} {R:α→List Value→Prop} {size:Nat} {ps:List α} {cs c all:List Value} {p:α} (hp:R p c) (hc:c.length=size) (h:Reps R size ps cs) (ha:c ++ cs=all):Reps R size (p :: ps) all:=by
 subst ha
 refine ⟨by rw [List.length_append,hc,h.1,List.length_cons,Nat.succ_mul,Nat.add_comm],fun j q hq=>?_⟩
 cases j with
 | zero =>
  simp only [List.getElem?_cons_zero,Option.some.injEq] at hq
  subst hq
  rw [Nat.zero_mul,List.drop_zero,List.take_append_of_le_length (by omega),List.take_of_length_le (by omega)]
  exact hp
 | succ j =>
  simp only [List.getElem?_cons_succ] at hq
  have h1:=h.2 j q hq
  rw [Nat.succ_mul,List.drop_append,List.drop_of_length_le (by rw [hc];exact Nat.le_add_left _ _),List.nil_append,hc,Nat.add_sub_cancel]
  exact h1
theorem Reps.c2 {α:Type} {R:α→List Value→Prop} {ps:List α} {cs:List Value} {p:α} {va vb:Value} (hp:R p [va,vb]) (h:Reps R 2 ps cs):Reps R 2 (p :: ps) (va :: vb :: cs):=Reps.front hp rfl h rfl
theorem Reps.c3 {α:Type} {R:α→List Value→Prop} {ps:List α} {cs:List Value} {p:α} {va vb vc:Value} (hp:R p [va,vb,vc]) (h:Reps R 3 ps cs):Reps R 3 (p :: ps) (va :: vb :: vc :: cs):=Reps.front hp rfl h rfl
theorem Reps.c4 {α:Type} {R:α→List Value→Prop} {ps:List α} {cs:List Value} {p:α} {va vb vc vd:Value} (hp:R p [va,vb,vc,vd]) (h:Reps R 4 ps cs):Reps R 4 (p :: ps) (va :: vb :: vc :: vd :: cs):=Reps.front hp rfl h rfl
theorem Reps.c5 {α:Type} {R:α→List Value→Prop} {ps:List α} {cs:List Value} {p:α} {va vb vc vd ve:Value} (hp:R p [va,vb,vc,vd,ve]) (h:Reps R 5 ps cs):Reps R 5 (p :: ps) (va :: vb :: vc :: vd :: ve :: cs):=Reps.front hp rfl h rfl
theorem Reps.c6 {α:Type} {R:α→List Value→Prop} {ps:List α} {cs:List Value} {p:α} {va vb vc vd ve vf:Value} (hp:R p [va,vb,vc,vd,ve,vf]) (h:Reps R 6 ps cs):Reps R 6 (p :: ps) (va :: vb :: vc :: vd :: ve :: vf :: cs):=Reps.front hp rfl h rfl
theorem Reps.c7 {α:Type} {R:α→List Value→Prop} {ps:List α} {cs:List Value} {p:α} {va vb vc vd ve vf vg:Value} (hp:R p [va,vb,vc,vd,ve,vf,vg]) (h:Reps R 7 ps cs):Reps R 7 (p :: ps) (va :: vb :: vc :: vd :: ve :: vf :: vg :: cs):=Reps.front hp rfl h rfl
theorem Reps.c8 {α:Type} {R:α→List Value→Prop} {ps:List α} {cs:List Value} {p:α} {va vb vc vd ve vf vg vh:Value} (hp:R p [va,vb,vc,vd,ve,vf,vg,vh]) (h:Reps R 8 ps cs):Reps R 8 (p :: ps) (va :: vb :: vc :: vd :: ve :: vf :: vg :: vh :: cs):=Reps.front hp rfl h rfl
theorem Reps.c9 {α:Type} {R:α→List Value→Prop} {ps:List α} {cs:List Value} {p:α} {va vb vc vd ve vf vg vh vi:Value} (hp:R p [va,vb,vc,vd,ve,vf,vg,vh,vi]) (h:Reps R 9 ps cs):Reps R 9 (p :: ps) (va :: vb :: vc :: vd :: ve :: vf :: vg :: vh :: vi :: cs):=Reps.front hp rfl h rfl
theorem Reps.c10 {α:Type} {R:α→List Value→Prop} {ps:List α} {cs:List Value} {p:α} {va vb vc vd ve vf vg vh vi vj:Value} (hp:R p [va,vb,vc,vd,ve,vf,vg,vh,vi,vj]) (h:Reps R 10 ps cs):Reps R 10 (p :: ps) (va :: vb :: vc :: vd :: ve :: vf :: vg :: vh :: vi :: vj :: cs):=Reps.front hp rfl h rfl
end Go.Proofs.YthipjoioicmcnaaW.PrintWords
namespace Go.Proofs.Ythipjoioicmcnaa.G
open Go.RowKit Go.Proofs.YthipjoioicmcnaaW.PrintWords Go.Proofs.YthipjoioicmcnaaW.PrintLast Go.Proofs.YthipjoioicmcnaaW.PrintMore
attribute [local go_sem] max2_int min2_int max_two min_two max_three min_three max_four min_four
set_option linter.unusedVariables false
set_option linter.unusedSimpArgs false
def errW:Option Int→Value
 | none => .nilIface
 | some c => .iface 0 (.int .i64 c)
theorem errW_none:errW none = .nilIface:=rfl
theorem errW_some (c:Int):errW (some c) = .iface 0 (.int .i64 c):=rfl
theorem info3:(Try.prog.info? 3).map (fun i=>(i.zero,i.size,i.bytes))=some (some (.int .i64 0),1,8):=by kernel_rfl
theorem info4:(Try.prog.info? 4).map (fun i=>(i.zero,i.size,i.bytes))=some (some (.bool false),1,1):=by kernel_rfl
theorem info5:(Try.prog.info? 5).map (fun i=>(i.zero,i.size,i.bytes))=some (some (.int .u8 0),1,1):=by kernel_rfl
theorem info66:(Try.prog.info? 66).map (fun i=>(i.zero,i.size,i.bytes))=some (some (.agg #[(.bool false),(.int .i64 0),(.int .i64 0)]),3,24):=by kernel_rfl
theorem info99:(Try.prog.info? 99).map (fun i=>(i.zero,i.size,i.bytes))=some (some (.agg #[(.int .i64 0),(.int .i64 0),(.int .i64 0),(.int .i64 0),(.int .i64 0),(.int .i64 0)]),6,48):=by kernel_rfl
structure S97 where
 f0:Bool
 f1:Int
 f2:Int
def z97:S97:=⟨false,(0:Int),(0:Int)⟩
def k97:Kd S97:=Kd.iso (Kd.pair Kd.bool (Kd.pair (Kd.int .i64) (Kd.int .i64))) (fun x:S97=>(x.f0,x.f1,x.f2))
theorem k97_open {w:World} {x:S97} {cs:List Value} (h:k97.K w x cs):cs=[.bool x.f0,.int .i64 x.f1,.int .i64 x.f2]:=by
 obtain ⟨_,_,rfl,rfl,⟨_,_,rfl,rfl,rfl⟩⟩:=h
 exact rfl
def rd_T97 (xs:List S97) (i:Int):S97:=xs.getD i.toNat z97
theorem at_T97 {w:World} {A:Option Addr} {n:Nat} {xs:List S97} (h:Kd.C k97 w A n xs) (i:Int) (h0:0≤i) (h1:i < n):∃ ad ,A=some ad∧w.cell? (ad.add (i.toNat * 3))=some (.bool (rd_T97 xs i).f0)∧w.cell? ⟨(ad.add (i.toNat * 3)).block,(ad.add (i.toNat * 3)).off + 1,none⟩=some (.int .i64 (rd_T97 xs i).f1)∧w.cell? ⟨(ad.add (i.toNat * 3)).block,(ad.add (i.toNat * 3)).off + 2,none⟩=some (.int .i64 (rd_T97 xs i).f2):=by
 obtain ⟨ad,c,e,_,hK,hc0⟩:=Kd.C_get h z97 i h0 h1
 have hc:∀ j u,c[j]? = some u→w.cell? (ad.add (i.toNat * 3 + j))=some u:=hc0
 obtain rfl:=k97_open hK
 exact ⟨ad,e,hc 0 _ rfl,by rw [← add_field _ _ 1 (by omega)];exact hc 1 _ rfl,by rw [← add_field _ _ 2 (by omega)];exact hc 2 _ rfl⟩
structure S101 where
 f0:Int
 f1:Int
 f2:Int
 f3:Int
 f4:Int
 f5:Int
def z101:S101:=⟨(0:Int),(0:Int),(0:Int),(0:Int),(0:Int),(0:Int)⟩
def k101:Kd S101:=Kd.iso (Kd.pair (Kd.int .i64) (Kd.pair (Kd.int .i64) (Kd.pair (Kd.int .i64) (Kd.pair (Kd.int .i64) (Kd.pair (Kd.int .i64) (Kd.int .i64)))))) (fun x:S101=>(x.f0,x.f1,x.f2,x.f3,x.f4,x.f5))
theorem k101_open {w:World} {x:S101} {cs:List Value} (h:k101.K w x cs):cs=[.int .i64 x.f0,.int .i64 x.f1,.int .i64 x.f2,.int .i64 x.f3,.int .i64 x.f4,.int .i64 x.f5]:=by
 obtain ⟨_,_,rfl,rfl,⟨_,_,rfl,rfl,⟨_,_,rfl,rfl,⟨_,_,rfl,rfl,⟨_,_,rfl,rfl,rfl⟩⟩⟩⟩⟩:=h
 exact rfl
def rd_T101 (xs:List S101) (i:Int):S101:=xs.getD i.toNat z101
theorem at_T101 {w:World} {A:Option Addr} {n:Nat} {xs:List S101} (h:Kd.C k101 w A n xs) (i:Int) (h0:0≤i) (h1:i < n):∃ ad ,A=some ad∧w.cell? (ad.add (i.toNat * 6))=some (.int .i64 (rd_T101 xs i).f0)∧w.cell? ⟨(ad.add (i.toNat * 6)).block,(ad.add (i.toNat * 6)).off + 1,none⟩=some (.int .i64 (rd_T101 xs i).f1)∧w.cell? ⟨(ad.add (i.toNat * 6)).block,(ad.add (i.toNat * 6)).off + 2,none⟩=some (.int .i64 (rd_T101 xs i).f2)∧w.cell? ⟨(ad.add (i.toNat * 6)).block,(ad.add (i.toNat * 6)).off + 3,none⟩=some (.int .i64 (rd_T101 xs i).f3)∧w.cell? ⟨(ad.add (i.toNat * 6)).block,(ad.add (i.toNat * 6)).off + 4,none⟩=some (.int .i64 (rd_T101 xs i).f4)∧w.cell? ⟨(ad.add (i.toNat * 6)).block,(ad.add (i.toNat * 6)).off + 5,none⟩=some (.int .i64 (rd_T101 xs i).f5):=by
 obtain ⟨ad,c,e,_,hK,hc0⟩:=Kd.C_get h z101 i h0 h1
 have hc:∀ j u,c[j]? = some u→w.cell? (ad.add (i.toNat * 6 + j))=some u:=hc0
 obtain rfl:=k101_open hK
 exact ⟨ad,e,hc 0 _ rfl,by rw [← add_field _ _ 1 (by omega)];exact hc 1 _ rfl,by rw [← add_field _ _ 2 (by omega)];exact hc 2 _ rfl,by rw [← add_field _ _ 3 (by omega)];exact hc 3 _ rfl,by rw [← add_field _ _ 4 (by omega)];exact hc 4 _ rfl,by rw [← add_field _ _ 5 (by omega)];exact hc 5 _ rfl⟩
structure S66 where
 f0:Bool
 f1:Int
 f2:Int
def z66:S66:=⟨false,(0:Int),(0:Int)⟩
def k66:Kd S66:=Kd.iso (Kd.pair Kd.bool (Kd.pair (Kd.int .i64) (Kd.int .i64))) (fun x:S66=>(x.f0,x.f1,x.f2))
theorem k66_heap:Kd.Heap k66:=Kd.heap_iso _ (Kd.heap_pair Kd.heap_bool (Kd.heap_pair (Kd.heap_int .i64) (Kd.heap_int .i64)))
theorem k66_open {w:World} {x:S66} {cs:List Value} (h:k66.K w x cs):cs=[.bool x.f0,.int .i64 x.f1,.int .i64 x.f2]:=by
 obtain ⟨_,_,rfl,rfl,⟨_,_,rfl,rfl,rfl⟩⟩:=h
 exact rfl
theorem k66_openM {w:World} {base:Nat} {ok:Nat→Prop} {x:S66} {cs:List Value} (h:k66.M w base ok x cs):cs=[.bool x.f0,.int .i64 x.f1,.int .i64 x.f2]:=by
 obtain ⟨_,_,rfl,rfl,⟨_,_,rfl,rfl,rfl⟩⟩:=h
 exact rfl
theorem k66_mkM (w:World) (base:Nat) (ok:Nat→Prop) (x:S66)  : k66.M w base ok x [.bool x.f0,.int .i64 x.f1,.int .i64 x.f2]:=⟨[.bool x.f0],[.int .i64 x.f1,.int .i64 x.f2],rfl,rfl,⟨[.int .i64 x.f1],[.int .i64 x.f2],rfl,rfl,rfl⟩⟩
def rd_T66 (xs:List S66) (i:Int):S66:=xs.getD i.toNat z66
theorem at_T66 {w:World} {A:Option Addr} {n:Nat} {xs:List S66} (h:Kd.C k66 w A n xs) (i:Int) (h0:0≤i) (h1:i < n):∃ ad ,A=some ad∧w.cell? (ad.add (i.toNat * 3))=some (.bool (rd_T66 xs i).f0)∧w.cell? ⟨(ad.add (i.toNat * 3)).block,(ad.add (i.toNat * 3)).off + 1,none⟩=some (.int .i64 (rd_T66 xs i).f1)∧w.cell? ⟨(ad.add (i.toNat * 3)).block,(ad.add (i.toNat * 3)).off + 2,none⟩=some (.int .i64 (rd_T66 xs i).f2):=by
 obtain ⟨ad,c,e,_,hK,hc0⟩:=Kd.C_get h z66 i h0 h1
 have hc:∀ j u,c[j]? = some u→w.cell? (ad.add (i.toNat * 3 + j))=some u:=hc0
 obtain rfl:=k66_open hK
 exact ⟨ad,e,hc 0 _ rfl,by rw [← add_field _ _ 1 (by omega)];exact hc 1 _ rfl,by rw [← add_field _ _ 2 (by omega)];exact hc 2 _ rfl⟩
structure S99 where
 f0:Int
 f1:Int
 f2:Int
 f3:Int
 f4:Int
 f5:Int
def z99:S99:=⟨(0:Int),(0:Int),(0:Int),(0:Int),(0:Int),(0:Int)⟩
def k99:Kd S99:=Kd.iso (Kd.pair (Kd.int .i64) (Kd.pair (Kd.int .i64) (Kd.pair (Kd.int .i64) (Kd.pair (Kd.int .i64) (Kd.pair (Kd.int .i64) (Kd.int .i64)))))) (fun x:S99=>(x.f0,x.f1,x.f2,x.f3,x.f4,x.f5))
theorem k99_heap:Kd.Heap k99:=Kd.heap_iso _ (Kd.heap_pair (Kd.heap_int .i64) (Kd.heap_pair (Kd.heap_int .i64) (Kd.heap_pair (Kd.heap_int .i64) (Kd.heap_pair (Kd.heap_int .i64) (Kd.heap_pair (Kd.heap_int .i64) (Kd.heap_int .i64))))))
theorem k99_open {w:World} {x:S99} {cs:List Value} (h:k99.K w x cs):cs=[.int .i64 x.f0,.int .i64 x.f1,.int .i64 x.f2,.int .i64 x.f3,.int .i64 x.f4,.int .i64 x.f5]:=by
 obtain ⟨_,_,rfl,rfl,⟨_,_,rfl,rfl,⟨_,_,rfl,rfl,⟨_,_,rfl,rfl,⟨_,_,rfl,rfl,rfl⟩⟩⟩⟩⟩:=h
 exact rfl
theorem k99_openM {w:World} {base:Nat} {ok:Nat→Prop} {x:S99} {cs:List Value} (h:k99.M w base ok x cs):cs=[.int .i64 x.f0,.int .i64 x.f1,.int .i64 x.f2,.int .i64 x.f3,.int .i64 x.f4,.int .i64 x.f5]:=by
 obtain ⟨_,_,rfl,rfl,⟨_,_,rfl,rfl,⟨_,_,rfl,rfl,⟨_,_,rfl,rfl,⟨_,_,rfl,rfl,rfl⟩⟩⟩⟩⟩:=h
 exact rfl
theorem k99_mkM (w:World) (base:Nat) (ok:Nat→Prop) (x:S99)  : k99.M w base ok x [.int .i64 x.f0,.int .i64 x.f1,.int .i64 x.f2,.int .i64 x.f3,.int .i64 x.f4,.int .i64 x.f5]:=⟨[.int .i64 x.f0],[.int .i64 x.f1,.int .i64 x.f2,.int .i64 x.f3,.int .i64 x.f4,.int .i64 x.f5],rfl,rfl,⟨[.int .i64 x.f1],[.int .i64 x.f2,.int .i64 x.f3,.int .i64 x.f4,.int .i64 x.f5],rfl,rfl,⟨[.int .i64 x.f2],[.int .i64 x.f3,.int .i64 x.f4,.int .i64 x.f5],rfl,rfl,⟨[.int .i64 x.f3],[.int .i64 x.f4,.int .i64 x.f5],rfl,rfl,⟨[.int .i64 x.f4],[.int .i64 x.f5],rfl,rfl,rfl⟩⟩⟩⟩⟩
def rd_T99 (xs:List S99) (i:Int):S99:=xs.getD i.toNat z99
theorem at_T99 {w:World} {A:Option Addr} {n:Nat} {xs:List S99} (h:Kd.C k99 w A n xs) (i:Int) (h0:0≤i) (h1:i < n):∃ ad ,A=some ad∧w.cell? (ad.add (i.toNat * 6))=some (.int .i64 (rd_T99 xs i).f0)∧w.cell? ⟨(ad.add (i.toNat * 6)).block,(ad.add (i.toNat * 6)).off + 1,none⟩=some (.int .i64 (rd_T99 xs i).f1)∧w.cell? ⟨(ad.add (i.toNat * 6)).block,(ad.add (i.toNat * 6)).off + 2,none⟩=some (.int .i64 (rd_T99 xs i).f2)∧w.cell? ⟨(ad.add (i.toNat * 6)).block,(ad.add (i.toNat * 6)).off + 3,none⟩=some (.int .i64 (rd_T99 xs i).f3)∧w.cell? ⟨(ad.add (i.toNat * 6)).block,(ad.add (i.toNat * 6)).off + 4,none⟩=some (.int .i64 (rd_T99 xs i).f4)∧w.cell? ⟨(ad.add (i.toNat * 6)).block,(ad.add (i.toNat * 6)).off + 5,none⟩=some (.int .i64 (rd_T99 xs i).f5):=by
 obtain ⟨ad,c,e,_,hK,hc0⟩:=Kd.C_get h z99 i h0 h1
 have hc:∀ j u,c[j]? = some u→w.cell? (ad.add (i.toNat * 6 + j))=some u:=hc0
 obtain rfl:=k99_open hK
 exact ⟨ad,e,hc 0 _ rfl,by rw [← add_field _ _ 1 (by omega)];exact hc 1 _ rfl,by rw [← add_field _ _ 2 (by omega)];exact hc 2 _ rfl,by rw [← add_field _ _ 3 (by omega)];exact hc 3 _ rfl,by rw [← add_field _ _ 4 (by omega)];exact hc 4 _ rfl,by rw [← add_field _ _ 5 (by omega)];exact hc 5 _ rfl⟩
end Go.Proofs.Ythipjoioicmcnaa.G
namespace Go.Proofs.Ythipjoioicmcnaa.G
open Go.Proofs.Ythipjoioicmcnaa.Sh
open Go.RowKit Go.Proofs.YthipjoioicmcnaaW.PrintWords Go.Proofs.YthipjoioicmcnaaW.PrintLast Go.Proofs.YthipjoioicmcnaaW.PrintMore
attribute [local go_sem] max2_int min2_int max_two min_two max_three min_three max_four min_four
set_option linter.unusedVariables false
set_option linter.unusedSimpArgs false
def impl_Table_half.f (A7:Int) (A1:ByteArray) (a1:Int):Option (Int × ByteArray):=if a1=0 then (if 0≤(wrap64 ((A1.size:Int) / 2)) then (if (wrap64 ((A1.size:Int) / 2))≤(A1.size:Int) then (some (wrap64 (A7 - 1),A1.extract 0 ((wrap64 ((A1.size:Int) / 2)):Int).toNat)) else (none)) else (none)) else (if 0≤(wrap64 ((A1.size:Int) / 2)) then (if (wrap64 ((A1.size:Int) / 2))≤(A1.size:Int) then (some (wrap64 (A7 - 1),A1.extract ((wrap64 ((A1.size:Int) / 2)):Int).toNat A1.size)) else (none)) else (none))
def impl_Table_half.T3:Bool × List (List Nat × List Nat):=(true,[([],[]),([0],[0]),([1],[1]),([],[]),([3],[3]),([],[]),([4,5],[4,5]),([2,6],[2,6]),([7,0,1,2,3,4,5,6,7],[7])])
def impl_Table_half.B3:List Nat:=[0,1,3,0,8,0,56,127,255]
theorem impl_Table_half.tab3:rtab .any (opsOf Try.f67 3)=impl_Table_half.T3:=by kernel_rfl
theorem impl_Table_half.bits3:waitsOk impl_Table_half.T3.2 impl_Table_half.B3=true:=by kernel_rfl
def impl_Table_half.T4:Bool × List (List Nat × List Nat):=(true,[([],[]),([0],[0]),([1],[1]),([],[]),([3],[3]),([],[]),([4,5],[4,5]),([2,6],[2,6]),([7,0,1,2,3,4,5,6,7],[7])])
def impl_Table_half.B4:List Nat:=[0,1,3,0,8,0,56,127,255]
theorem impl_Table_half.tab4:rtab .any (opsOf Try.f67 4)=impl_Table_half.T4:=by kernel_rfl
theorem impl_Table_half.bits4:waitsOk impl_Table_half.T4.2 impl_Table_half.B4=true:=by kernel_rfl
set_option maxHeartbeats 8000000 in
set_option maxRecDepth 100000 in
theorem impl_Table_half.calls (A7:Int) (A1:ByteArray) (a1:Int) (r1:Int) (r2:ByteArray) (w:World) (h:impl_Table_half.f A7 A1 a1=some (r1,r2)) :
  Calls Try.prog 67 #[.agg #[.int .i64 A7,.string A1],.int .i64 a1] w fun e w'=>e = .returned (.agg #[.int .i64 r1,.string r2])∧Below w.heap.size w w':=by
 have hu26:=Try.underlying26;have HB:=Aside0.mk (Below.refl w.heap.size w);have H:(if a1=0 then (if 0≤(wrap64 ((A1.size:Int) / 2)) then (if (wrap64 ((A1.size:Int) / 2))≤(A1.size:Int) then (some (wrap64 (A7 - 1),A1.extract 0 ((wrap64 ((A1.size:Int) / 2)):Int).toNat)) else (none)) else (none)) else (if 0≤(wrap64 ((A1.size:Int) / 2)) then (if (wrap64 ((A1.size:Int) / 2))≤(A1.size:Int) then (some (wrap64 (A7 - 1),A1.extract ((wrap64 ((A1.size:Int) / 2)):Int).toNat A1.size)) else (none)) else (none)))=some (r1,r2):=h;clear h
 by_cases c3:a1=0
 ·rw [if_pos c3] at H;have c3b0:(a1 == 0)=true:=beq_iff_eq.mpr c3;have c3b1:(a1 != 0)=false:=bne_eq_false_iff_eq.mpr c3;clear c3;obtain ⟨ji4,hji4⟩:∃ j_:Int,(wrap64 ((A1.size:Int) / 2))=j_:=⟨_,rfl⟩
  replace H:(if 0≤(ji4) then (if (ji4)≤(A1.size:Int) then (some (wrap64 (A7 - 1),A1.extract 0 ((ji4):Int).toNat)) else (none)) else (none))=some (r1,r2):=by first|(rw [hji4] at H;exact H)|(simp only [hji4] at H ⊢;exact H)
  have hji4w:(IntKind.i64.wrap ((A1.size:Int) / 2))=ji4:=(i64_w _).trans hji4
  by_cases c5:0≤(ji4)
  ·rw [if_pos c5] at H;have c5b0:=eq_true c5;have c5b1:decide (0≤(ji4))=true:=decide_eq_true c5;clear c5
   by_cases c6:(ji4)≤(A1.size:Int)
   ·rw [if_pos c6] at H;have c6b0:=eq_true c6;have c6b1:decide ((ji4)≤(A1.size:Int))=true:=decide_eq_true c6;clear c6;simp only [Option.some.injEq,Prod.mk.injEq] at H;obtain ⟨rfl,rfl⟩:=H
    go_enter Try.func67,Try.ntmps67
    try go_wp2_with (first|((with_reducible refine gate_dst (N:=2) rfl ?_);refine bx (N:=2) (cs:=#[.int .i64 A7,.string A1]) (t:=26) ?_;intro A4 hg w7 hbox hb;have A2:=Aside0.mk (hbox);have A8:=Aside0.mk ((by rw [hg];exact (below_size (tb HB)):w.heap.size≤A4));have A9:=Aside0.mk ((by rw [hg];exact (below_size (tb HB)):w.heap.size≤A4));replace HB:=Aside0.mk (below_step (tb HB) hb);clear hb hbox hg)|((with_reducible refine gate_dst (N:=4) rfl ?_);refine bx (N:=4) (cs:=#[.int .i64 0,.string (⟨#[]⟩:ByteArray)]) (t:=26) ?_;intro A3 hg w8 hbox hb;have A5:=Aside0.mk (hbox);have Aa:=Aside0.mk ((by rw [hg];exact (below_size (tb HB)):w.heap.size≤A3));have Ab:=Aside0.mk ((by rw [hg];exact (below_size (tb HB)):w.heap.size≤A3));replace HB:=Aside0.mk (below_step (tb HB) hb);have A0:=Aside0.mk ((by rw [hg];exact Nat.ne_of_lt (blk_lt (g:=A4) (o := .cells #[.int .i64 A7,.string A1] 26 (0,0)) (dr A2)):A4≠A3));have A6:=Aside0.mk ((by rw [hg];exact Nat.ne_of_gt (blk_lt (g:=A4) (o := .cells #[.int .i64 A7,.string A1] 26 (0,0)) (dr A2)):A3≠A4));replace A2:=Aside0.mk (blk_below (g:=A4) (o := .cells #[.int .i64 A7,.string A1] 26 (0,0)) (dr A2) hb);clear hb hbox hg;have hnb9:=A0.out;have hnc9:=A6.out;have hcz10__:=c2_ A2;have hfz10__:=f_ A2))
    have n0_:=Aside0.mk (blk_drew A2.out);have n1_:=Aside0.mk (blk_drew A5.out);have n2_:=Aside0.mk (below_drew1 HB.out);clear A2;clear A5;clear HB;have A2:=n0_;have A5:=n1_;have HB:=n2_;clear n0_ n1_ n2_;refine start_ (n:=9) (S:=fun w'=>w'.cell? ⟨A4,0,none⟩=some (.int .i64 A7)∧w'.cell? ⟨A4,1,none⟩=some (.string A1)) (ds:=[]) (tf 0 9) (by kernel_rfl) rfl rfl ⟨(blk_cell A2.out 0).trans rfl,(blk_cell A2.out 1).trans rfl⟩ (fun hHeld=>?_);refine with_tabW impl_Table_half.tab3 impl_Table_half.bits3 (fun HT_ HW_=>?_);generalize w8.drew=w11 at A2 A5 HB hHeld ⊢;refine pure_ (i:=0) (N:=some 12) (v:=?_) (a':=?_) (tf 1 8) rfl rfl (any_of HT_.out (by kernel_rfl)) (fun _ _ _ h=>h) (Or.inl ⟨by rfl,?_⟩) ?_ ?_;rotate_left
    ·intro w';go_simp;with_reducible rfl
    rotate_left
    ·simp only [Act.put,s1,s2,s3,i64_w,i32_w];rfl
    refine pure_ (i:=3) (N:=some 15) (v:=?_) (a':=?_) #[true,false,false,true,false,false,false,false,false] rfl rfl (any_of HT_.out (by kernel_rfl)) (fun _ _ _ h=>h) (Or.inl ⟨by rfl,?_⟩) ?_ ?_;rotate_left
    ·intro w';go_simp;with_reducible rfl
    rotate_left
    ·simp only [Act.put,s1,s2,s3,i64_w,i32_w];rfl
    refine pure_ (i:=5) (N:=some 17) (v:=?_) (a':=?_) #[true,false,false,true,false,true,false,false,false] rfl rfl (any_of HT_.out (by kernel_rfl)) (fun _ _ _ h=>h) (Or.inl ⟨by rfl,?_⟩) ?_ ?_;rotate_left
    ·intro w';go_simp;with_reducible rfl
    rotate_left
    ·simp only [Act.put,s1,s2,s3,i64_w,i32_w];rfl
    refine take_ (i:=1) (N:=some 13) (v:=?_) (a':=?_) #[true,true,false,true,false,true,false,false,false] rfl rfl (take_ofW HT_.out HW_.out (by kernel_rfl)) (fun _ _ _ h=>h) (Or.inl ⟨by rfl,?_⟩) hHeld ?_ ?_;rotate_left
    ·rintro w' ⟨s0,s1⟩;go_simp;with_reducible rfl
    rotate_left
    ·simp only [Act.put,s1,s2,s3,i64_w,i32_w];rfl
    refine pure_ (i:=2) (N:=some 14) (v:=?_) (a':=?_) #[true,true,true,true,false,true,false,false,false] rfl rfl (any_of HT_.out (by kernel_rfl)) (fun _ _ _ h=>h) (Or.inl ⟨by rfl,?_⟩) ?_ ?_;rotate_left
    ·intro w';go_simp;with_reducible rfl
    rotate_left
    ·simp only [Act.put,s1,s2,s3,i64_w,i32_w];rfl
    refine take_ (i:=4) (N:=some 16) (v:=?_) (a':=?_) (tf 6 3) rfl rfl (take_ofW HT_.out HW_.out (by kernel_rfl)) (fun _ _ _ h=>h) (Or.inl ⟨by rfl,?_⟩) hHeld ?_ ?_;rotate_left
    ·rintro w' ⟨s0,s1⟩;go_simp;with_reducible rfl
    rotate_left
    ·simp only [Act.put,s1,s2,s3,i64_w,i32_w];rfl
    refine pure_ (i:=6) (N:=some 18) (v:=?_) (a':=?_) (tf 7 2) rfl rfl (any_of HT_.out (by kernel_rfl)) (fun _ _ _ h=>h) (Or.inl ⟨by rfl,?_⟩) ?_ ?_;rotate_left
    ·intro w';go_simp;with_reducible rfl
    rotate_left
    ·simp only [Act.put,s1,s2,s3,i64_w,i32_w];rfl
    refine pure_ (i:=7) (N:=some 19) (v:=?_) (a':=?_) (tf 8 1) rfl rfl (any_of HT_.out (by kernel_rfl)) (fun _ _ _ h=>h) (Or.inl ⟨by rfl,?_⟩) ?_ ?_;rotate_left
    ·intro w';go_simp;with_reducible rfl
    rotate_left
    ·simp only [Act.put,s1,s2,s3,i64_w,i32_w];rfl
    refine one_ (i:=8) (N:=none) (tf 9 0) rfl rfl (one_of HT_.out (by kernel_rfl)) (by decide) (fun K hK=>?_);have hs12:w11.cell? ⟨A3,0,none⟩=some (.int .i64 0):=(blk_cell A5.out 0).trans rfl;have hfs12:=blk_frozen A5.out 0;have hns12_0:=A0.out;have hms12_0:=A6.out;have hs13:w11.cell? ⟨A3,1,none⟩=some (.string (⟨#[]⟩:ByteArray)):=(blk_cell A5.out 1).trans rfl;have hfs13:=blk_frozen A5.out 1;have hns13_0:=A0.out;have hms13_0:=A6.out;refine skip_ (w1:=?_) (by rfl) rfl ?_ ?_;rotate_left
    ·go_simp;rfl
    refine hK.out _ _ ⟨((cell_far (p:=⟨A3,_,none⟩) A0.out _).trans (((cell_far (p:=⟨A3,_,none⟩) A0.out _).trans (hHeld.1)))),((cell_far (p:=⟨A3,_,none⟩) A0.out _).trans (((cell_far (p:=⟨A3,_,none⟩) A0.out _).trans (hHeld.2))))⟩ (fun hHeld=>?_);clear hK K;refine done_ (done_of HT_.out (by kernel_rfl)) ?_
    try go_wp2
    refine bodyPost_ret (results_cell_row rfl _ _ A3 26 #[.int .i64 (wrap64 (A7 - 1)),.string (A1.extract 0 ((ji4):Int).toNat)] (0,0) _ rfl (by (with_reducible repeat (first|refine blk_drewN ?_ _|refine blk_drew ?_|refine blk_alloc ?_ _));refine blk_put (cs:=#[.int .i64 (wrap64 (A7 - 1)),.string (⟨#[]⟩:ByteArray)]) ?_ 1 _ rfl;(with_reducible repeat (first|refine blk_drewN ?_ _|refine blk_drew ?_|refine blk_alloc ?_ _));refine blk_put (cs:=#[.int .i64 0,.string (⟨#[]⟩:ByteArray)]) ?_ 0 _ rfl;(with_reducible repeat (first|refine blk_drewN ?_ _|refine blk_drew ?_|refine blk_alloc ?_ _));exact A5.out) Try.underlying26 rfl (by kernel_rfl)) rfl ?_;exact ⟨by first|rfl|(simp [errW_none,errW_some] <;> rfl)|(simp only [← hji4];first|rfl|(simp [errW_none,errW_some] <;> rfl))|(simp [*,errW_none,errW_some] <;> rfl),tb HB⟩
   ·rw [if_neg c6] at H;exact absurd H (by simp)
  ·rw [if_neg c5] at H;exact absurd H (by simp)
 ·rw [if_neg c3] at H;have c3b0:(a1 == 0)=false:=beq_eq_false_iff_ne.mpr c3;have c3b1:(a1 != 0)=true:=bne_iff_ne.mpr c3;obtain ⟨ji14,hji14⟩:∃ j_:Int,(wrap64 ((A1.size:Int) / 2))=j_:=⟨_,rfl⟩
  replace H:(if 0≤(ji14) then (if (ji14)≤(A1.size:Int) then (some (wrap64 (A7 - 1),A1.extract ((ji14):Int).toNat A1.size)) else (none)) else (none))=some (r1,r2):=by first|(rw [hji14] at H;exact H)|(simp only [hji14] at H ⊢;exact H)
  have hji14w:(IntKind.i64.wrap ((A1.size:Int) / 2))=ji14:=(i64_w _).trans hji14
  by_cases c15:0≤(ji14)
  ·rw [if_pos c15] at H;have c15b0:=eq_true c15;have c15b1:decide (0≤(ji14))=true:=decide_eq_true c15;clear c15
   by_cases c16:(ji14)≤(A1.size:Int)
   ·rw [if_pos c16] at H;have c16b0:=eq_true c16;have c16b1:decide ((ji14)≤(A1.size:Int))=true:=decide_eq_true c16;clear c16;simp only [Option.some.injEq,Prod.mk.injEq] at H;obtain ⟨rfl,rfl⟩:=H
    go_enter Try.func67,Try.ntmps67
    try go_wp2_with (first|((with_reducible refine gate_dst (N:=2) rfl ?_);refine bx (N:=2) (cs:=#[.int .i64 A7,.string A1]) (t:=26) ?_;intro A4 hg w17 hbox hb;have A2:=Aside0.mk (hbox);have A8:=Aside0.mk ((by rw [hg];exact (below_size (tb HB)):w.heap.size≤A4));have A9:=Aside0.mk ((by rw [hg];exact (below_size (tb HB)):w.heap.size≤A4));replace HB:=Aside0.mk (below_step (tb HB) hb);clear hb hbox hg)|((with_reducible refine gate_dst (N:=4) rfl ?_);refine bx (N:=4) (cs:=#[.int .i64 0,.string (⟨#[]⟩:ByteArray)]) (t:=26) ?_;intro A3 hg w18 hbox hb;have A5:=Aside0.mk (hbox);have Aa:=Aside0.mk ((by rw [hg];exact (below_size (tb HB)):w.heap.size≤A3));have Ab:=Aside0.mk ((by rw [hg];exact (below_size (tb HB)):w.heap.size≤A3));replace HB:=Aside0.mk (below_step (tb HB) hb);have A0:=Aside0.mk ((by rw [hg];exact Nat.ne_of_lt (blk_lt (g:=A4) (o := .cells #[.int .i64 A7,.string A1] 26 (0,0)) (dr A2)):A4≠A3));have A6:=Aside0.mk ((by rw [hg];exact Nat.ne_of_gt (blk_lt (g:=A4) (o := .cells #[.int .i64 A7,.string A1] 26 (0,0)) (dr A2)):A3≠A4));replace A2:=Aside0.mk (blk_below (g:=A4) (o := .cells #[.int .i64 A7,.string A1] 26 (0,0)) (dr A2) hb);clear hb hbox hg;have hnb19:=A0.out;have hnc19:=A6.out;have hcz20__:=c2_ A2;have hfz20__:=f_ A2))
    have n0_:=Aside0.mk (blk_drew A2.out);have n1_:=Aside0.mk (blk_drew A5.out);have n2_:=Aside0.mk (below_drew1 HB.out);clear A2;clear A5;clear HB;have A2:=n0_;have A5:=n1_;have HB:=n2_;clear n0_ n1_ n2_;refine start_ (n:=9) (S:=fun w'=>w'.cell? ⟨A4,0,none⟩=some (.int .i64 A7)∧w'.cell? ⟨A4,1,none⟩=some (.string A1)) (ds:=[]) (tf 0 9) (by kernel_rfl) rfl rfl ⟨(blk_cell A2.out 0).trans rfl,(blk_cell A2.out 1).trans rfl⟩ (fun hHeld=>?_);refine with_tabW impl_Table_half.tab4 impl_Table_half.bits4 (fun HT_ HW_=>?_);generalize w18.drew=w21 at A2 A5 HB hHeld ⊢;refine pure_ (i:=0) (N:=some 20) (v:=?_) (a':=?_) (tf 1 8) rfl rfl (any_of HT_.out (by kernel_rfl)) (fun _ _ _ h=>h) (Or.inl ⟨by rfl,?_⟩) ?_ ?_;rotate_left
    ·intro w';go_simp;with_reducible rfl
    rotate_left
    ·simp only [Act.put,s1,s2,s3,i64_w,i32_w];rfl
    refine pure_ (i:=3) (N:=some 23) (v:=?_) (a':=?_) #[true,false,false,true,false,false,false,false,false] rfl rfl (any_of HT_.out (by kernel_rfl)) (fun _ _ _ h=>h) (Or.inl ⟨by rfl,?_⟩) ?_ ?_;rotate_left
    ·intro w';go_simp;with_reducible rfl
    rotate_left
    ·simp only [Act.put,s1,s2,s3,i64_w,i32_w];rfl
    refine pure_ (i:=5) (N:=some 25) (v:=?_) (a':=?_) #[true,false,false,true,false,true,false,false,false] rfl rfl (any_of HT_.out (by kernel_rfl)) (fun _ _ _ h=>h) (Or.inl ⟨by rfl,?_⟩) ?_ ?_;rotate_left
    ·intro w';go_simp;with_reducible rfl
    rotate_left
    ·simp only [Act.put,s1,s2,s3,i64_w,i32_w];rfl
    refine take_ (i:=1) (N:=some 21) (v:=?_) (a':=?_) #[true,true,false,true,false,true,false,false,false] rfl rfl (take_ofW HT_.out HW_.out (by kernel_rfl)) (fun _ _ _ h=>h) (Or.inl ⟨by rfl,?_⟩) hHeld ?_ ?_;rotate_left
    ·rintro w' ⟨s0,s1⟩;go_simp;with_reducible rfl
    rotate_left
    ·simp only [Act.put,s1,s2,s3,i64_w,i32_w];rfl
    refine pure_ (i:=2) (N:=some 22) (v:=?_) (a':=?_) #[true,true,true,true,false,true,false,false,false] rfl rfl (any_of HT_.out (by kernel_rfl)) (fun _ _ _ h=>h) (Or.inl ⟨by rfl,?_⟩) ?_ ?_;rotate_left
    ·intro w';go_simp;with_reducible rfl
    rotate_left
    ·simp only [Act.put,s1,s2,s3,i64_w,i32_w];rfl
    refine take_ (i:=4) (N:=some 24) (v:=?_) (a':=?_) (tf 6 3) rfl rfl (take_ofW HT_.out HW_.out (by kernel_rfl)) (fun _ _ _ h=>h) (Or.inl ⟨by rfl,?_⟩) hHeld ?_ ?_;rotate_left
    ·rintro w' ⟨s0,s1⟩;go_simp;with_reducible rfl
    rotate_left
    ·simp only [Act.put,s1,s2,s3,i64_w,i32_w];rfl
    refine pure_ (i:=6) (N:=some 26) (v:=?_) (a':=?_) (tf 7 2) rfl rfl (any_of HT_.out (by kernel_rfl)) (fun _ _ _ h=>h) (Or.inl ⟨by rfl,?_⟩) ?_ ?_;rotate_left
    ·intro w';go_simp;with_reducible rfl
    rotate_left
    ·simp only [Act.put,s1,s2,s3,i64_w,i32_w];rfl
    refine pure_ (i:=7) (N:=some 27) (v:=?_) (a':=?_) (tf 8 1) rfl rfl (any_of HT_.out (by kernel_rfl)) (fun _ _ _ h=>h) (Or.inl ⟨by rfl,?_⟩) ?_ ?_;rotate_left
    ·intro w';go_simp;with_reducible rfl
    rotate_left
    ·simp only [Act.put,s1,s2,s3,i64_w,i32_w];rfl
    refine one_ (i:=8) (N:=none) (tf 9 0) rfl rfl (one_of HT_.out (by kernel_rfl)) (by decide) (fun K hK=>?_);have hs22:w21.cell? ⟨A3,0,none⟩=some (.int .i64 0):=(blk_cell A5.out 0).trans rfl;have hfs22:=blk_frozen A5.out 0;have hns22_0:=A0.out;have hms22_0:=A6.out;have hs23:w21.cell? ⟨A3,1,none⟩=some (.string (⟨#[]⟩:ByteArray)):=(blk_cell A5.out 1).trans rfl;have hfs23:=blk_frozen A5.out 1;have hns23_0:=A0.out;have hms23_0:=A6.out;refine skip_ (w1:=?_) (by rfl) rfl ?_ ?_;rotate_left
    ·go_simp;rfl
    refine hK.out _ _ ⟨((cell_far (p:=⟨A3,_,none⟩) A0.out _).trans (((cell_far (p:=⟨A3,_,none⟩) A0.out _).trans (hHeld.1)))),((cell_far (p:=⟨A3,_,none⟩) A0.out _).trans (((cell_far (p:=⟨A3,_,none⟩) A0.out _).trans (hHeld.2))))⟩ (fun hHeld=>?_);clear hK K;refine done_ (done_of HT_.out (by kernel_rfl)) ?_
    try go_wp2
    refine bodyPost_ret (results_cell_row rfl _ _ A3 26 #[.int .i64 (wrap64 (A7 - 1)),.string (A1.extract ((ji14):Int).toNat A1.size)] (0,0) _ rfl (by (with_reducible repeat (first|refine blk_drewN ?_ _|refine blk_drew ?_|refine blk_alloc ?_ _));refine blk_put (cs:=#[.int .i64 (wrap64 (A7 - 1)),.string (⟨#[]⟩:ByteArray)]) ?_ 1 _ rfl;(with_reducible repeat (first|refine blk_drewN ?_ _|refine blk_drew ?_|refine blk_alloc ?_ _));refine blk_put (cs:=#[.int .i64 0,.string (⟨#[]⟩:ByteArray)]) ?_ 0 _ rfl;(with_reducible repeat (first|refine blk_drewN ?_ _|refine blk_drew ?_|refine blk_alloc ?_ _));exact A5.out) Try.underlying26 rfl (by kernel_rfl)) rfl ?_;exact ⟨by first|rfl|(simp [errW_none,errW_some] <;> rfl)|(simp only [← hji14];first|rfl|(simp [errW_none,errW_some] <;> rfl))|(simp [*,errW_none,errW_some] <;> rfl),tb HB⟩
   ·rw [if_neg c16] at H;exact absurd H (by simp)
  ·rw [if_neg c15] at H;exact absurd H (by simp)
def impl_bit.f (a0:Bool):Option (Int):=if a0=true then (some 1) else (some 0)
set_option maxHeartbeats 8000000 in
set_option maxRecDepth 100000 in
theorem impl_bit.calls (a0:Bool) (r:Int) (w:World) (h:impl_bit.f a0=some r) :
  Calls Try.prog 111 #[.bool a0] w fun e w'=>e = .returned (.int .i64 r)∧Drawn0 w w':=by
 have H:(if a0=true then (some 1) else (some 0))=some r:=h;clear h
 by_cases c2:a0=true
 ·subst c2
  have H1:(some 1)=some r:=by rw [if_pos rfl] at H;exact H
  clear H;have H:=H1;clear H1;obtain rfl:=os H
  go_enter Try.func111,Try.ntmps111
  go_wp2;go_ret;exact ⟨e1,dn⟩
 ·replace c2:=Bool.eq_false_iff.mpr c2;subst c2
  have H1:(some 0)=some r:=by rw [if_neg (show ¬ (false=true) by decide)] at H;exact H
  clear H;have H:=H1;clear H1;obtain rfl:=os H
  go_enter Try.func111,Try.ntmps111
  go_wp2;go_ret;exact ⟨e1,dn⟩
end Go.Proofs.Ythipjoioicmcnaa.G
namespace Go.Proofs
open Go.Shelf
def Try.lays144_ren:Go.Shelf.Ren:=⟨fun|144=>112|143=>116|219=>133|217=>148|225=>149|224=>150|267=>151|266=>175|314=>176|n=>n,fun|9=>9|4=>4|3=>3|5=>5|46=>81|146=>151|51=>150|n=>n,fun|1=>0|n=>n⟩
theorem Try.lays144:Go.Proofs.Lays.n144 Try.prog Try.lays144_ren:={
 mixed:=by kernel_rfl
 f143:=Try.func116.trans (congrArg some (by kernel_rfl))
 f144:=Try.func112.trans (congrArg some (by kernel_rfl))
 f217:=Try.func148.trans (congrArg some (by kernel_rfl))
 f219:=Try.func133.trans (congrArg some (by kernel_rfl))
 f224:=Try.func150.trans (congrArg some (by kernel_rfl))
 f225:=Try.func149.trans (congrArg some (by kernel_rfl))
 f266:=Try.func175.trans (congrArg some (by kernel_rfl))
 f267:=Try.func151.trans (congrArg some (by kernel_rfl))
 f314:=Try.func176.trans (congrArg some (by kernel_rfl))
 t3:=Try.underlying3
 a3:=Try.isAgg3
 z3:=Try.sizeOf3
 v3:=Try.zeroValue3
 t4:=Try.underlying4
 a4:=Try.isAgg4
 z4:=Try.sizeOf4
 v4:=Try.zeroValue4
 t5:=Try.underlying5
 a5:=Try.isAgg5
 z5:=Try.sizeOf5
 v5:=Try.zeroValue5
 t9:=Try.underlying9
 a9:=Try.isAgg9
 z9:=Try.sizeOf9
 v9:=Try.zeroValue9
 t46:=Try.underlying81
 a46:=Try.isAgg81
 z46:=Try.sizeOf81
 v46:=Try.zeroValue81
 t51:=Try.underlying150
 a51:=Try.isAgg150
 z51:=Try.sizeOf150
 v51:=Try.zeroValue150
 t146:=Try.underlying151
 a146:=Try.isAgg151
 z146:=Try.sizeOf151
 v146:=Try.zeroValue151
 g1:=by kernel_rfl }
open Go.RowKit Go.Lib in
theorem Try.strings_Contains_one (s:ByteArray) (c:UInt8) (w:World) :
  Calls Try.prog 112 #[.string s,.string ⟨#[c]⟩] w fun e w'=>e = .returned (.bool (decide (0≤Lib.indexByte s.data.toList c)))∧w'=w:=Any.strings_Contains_one Try.lays144 s c w
end Go.Proofs
namespace Go.Proofs.Ythipjoioicmcnaa.G
open Go.Proofs.Ythipjoioicmcnaa.Sh
open Go.RowKit Go.Proofs.YthipjoioicmcnaaW.PrintWords Go.Proofs.YthipjoioicmcnaaW.PrintLast Go.Proofs.YthipjoioicmcnaaW.PrintMore
attribute [local go_sem] max2_int min2_int max_two min_two max_three min_three max_four min_four
set_option linter.unusedVariables false
set_option linter.unusedSimpArgs false
def strings_Contains.f (a0:ByteArray) (a1:ByteArray):Option Bool:=match a1 with
 | ⟨⟨[c]⟩⟩=>some (a0.data.toList.contains c)
 | _=>none
theorem strings_Contains.calls (a0:ByteArray) (a1:ByteArray) (r:Bool) (w:World) (h:strings_Contains.f a0 a1=some r) :
  Calls Try.prog 112 #[.string a0,.string a1] w fun e w'=>e = .returned (.bool r)∧Drawn0 w w':=by
 unfold strings_Contains.f at h
 split at h
 ·rename_i c
  obtain rfl:=Option.some.inj h
  refine (Try.strings_Contains_one a0 c w).mono fun e w' hh=>?_
  obtain ⟨rfl,rfl⟩:=hh;exact ⟨by rw [Go.Lib.contains_iff_indexByte],Drawn0.refl _⟩
 ·cases h
def impl_Table_known.f (Aa:Int) (A0:ByteArray):Option (Int):=(strings_Contains.f A0 (⟨#[49]⟩:ByteArray)).bind fun A6=>(if A6=true then ((strings_Contains.f A0 (⟨#[48]⟩:ByteArray)).bind fun A7=>(if A7=true then (some (-1)) else ((impl_bit.f A6).bind fun A1=>(some A1)))) else ((impl_bit.f A6).bind fun A9=>(some A9)))
set_option maxHeartbeats 8000000 in
set_option maxRecDepth 100000 in
theorem impl_Table_known.calls (Aa:Int) (A0:ByteArray) (r:Int) (w:World) (h:impl_Table_known.f Aa A0=some r) :
  Calls Try.prog 65 #[.agg #[.int .i64 Aa,.string A0]] w fun e w'=>e = .returned (.int .i64 r)∧Below w.heap.size w w':=by
 have hu26:=Try.underlying26;have HB:=Aside0.mk (Below.refl w.heap.size w);have H:((strings_Contains.f A0 (⟨#[49]⟩:ByteArray)).bind fun A6=>(if A6=true then ((strings_Contains.f A0 (⟨#[48]⟩:ByteArray)).bind fun A7=>(if A7=true then (some (-1)) else ((impl_bit.f A6).bind fun A1=>(some A1)))) else ((impl_bit.f A6).bind fun A9=>(some A9))))=some r:=h;clear h;replace H:=ob H;obtain ⟨A6,A20,H⟩:=H;replace H:(if A6=true then ((strings_Contains.f A0 (⟨#[48]⟩:ByteArray)).bind fun A7=>(if A7=true then (some (-1)) else ((impl_bit.f A6).bind fun A1=>(some A1)))) else ((impl_bit.f A6).bind fun A9=>(some A9)))=some r:=H;have A2:=Aside0.mk A20;clear A20
 by_cases c3:A6=true
 ·subst c3
  have H1:((strings_Contains.f A0 (⟨#[48]⟩:ByteArray)).bind fun A7=>(if A7=true then (some (-1)) else ((impl_bit.f true).bind fun A1=>(some A1))))=some r:=by rw [if_pos rfl] at H;exact H
  clear H;have H:=H1;clear H1;replace H:=ob H;obtain ⟨A7,A40,H⟩:=H;replace H:(if A7=true then (some (-1)) else ((impl_bit.f true).bind fun A1=>(some A1)))=some r:=H;have A4:=Aside0.mk A40;clear A40
  by_cases c5:A7=true
  ·subst c5
   have H1:(some (-1))=some r:=by rw [if_pos rfl] at H;exact H
   clear H;have H:=H1;clear H1;obtain rfl:=os H
   go_enter Try.func65,Try.ntmps65
   go_wp2_with (first|((with_reducible refine gate_dst (N:=1) rfl ?_);refine bx (N:=1) (cs:=#[.int .i64 Aa,.string A0]) (t:=26) ?_;intro A3 hg w6 hbox hb;have A5:=Aside0.mk (hbox);have Ab:=Aside0.mk ((by rw [hg];exact (below_size (tb HB)):w.heap.size≤A3));have Ac:=Aside0.mk ((by rw [hg];exact (below_size (tb HB)):w.heap.size≤A3));replace HB:=Aside0.mk (below_step (tb HB) hb);clear hb hbox hg;have hcz7__:=c2_ A5;have hfz7__:=f_ A5)|((with_reducible refine gate_callee (f:=112) rfl ?_);refine goesL_ (some 6) rfl rfl Try.func112 (by kernel_rfl) rfl #[.string A0,.string (⟨#[49]⟩:ByteArray)] rfl ml ?_;(with_reducible refine (strings_Contains.calls A0 (⟨#[49]⟩:ByteArray) true _ A2.out).mono ?_);rintro e w' ⟨rfl,⟨nd,rfl⟩⟩;refine ⟨_,rfl,?_⟩)|(go_at_call 112;(try simp only [i64_w,i32_w]);(with_reducible refine (strings_Contains.calls A0 (⟨#[48]⟩:ByteArray) true _ A4.out).mono ?_);rintro e w' ⟨rfl,⟨nd,rfl⟩⟩));go_ret;exact ⟨er,tb HB⟩
  ·replace c5:=Bool.eq_false_iff.mpr c5;subst c5
   have H1:((impl_bit.f true).bind fun A1=>(some A1))=some r:=by rw [if_neg (show ¬ (false=true) by decide)] at H;exact H
   clear H;have H:=H1;clear H1;replace H:=ob H;obtain ⟨A1,A80,H⟩:=H;replace H:(some A1)=some r:=H;have A8:=Aside0.mk A80;clear A80;obtain rfl:=os H
   go_enter Try.func65,Try.ntmps65
   go_wp2_with (first|((with_reducible refine gate_dst (N:=1) rfl ?_);refine bx (N:=1) (cs:=#[.int .i64 Aa,.string A0]) (t:=26) ?_;intro A3 hg w9 hbox hb;have A5:=Aside0.mk (hbox);have Ab:=Aside0.mk ((by rw [hg];exact (below_size (tb HB)):w.heap.size≤A3));have Ac:=Aside0.mk ((by rw [hg];exact (below_size (tb HB)):w.heap.size≤A3));replace HB:=Aside0.mk (below_step (tb HB) hb);clear hb hbox hg;have hcz10__:=c2_ A5;have hfz10__:=f_ A5)|((with_reducible refine gate_callee (f:=112) rfl ?_);refine goesL_ (some 6) rfl rfl Try.func112 (by kernel_rfl) rfl #[.string A0,.string (⟨#[49]⟩:ByteArray)] rfl ml ?_;(with_reducible refine (strings_Contains.calls A0 (⟨#[49]⟩:ByteArray) true _ A2.out).mono ?_);rintro e w' ⟨rfl,⟨nd,rfl⟩⟩;refine ⟨_,rfl,?_⟩)|(go_at_call 112;(try simp only [i64_w,i32_w]);(with_reducible refine (strings_Contains.calls A0 (⟨#[48]⟩:ByteArray) false _ A4.out).mono ?_);rintro e w' ⟨rfl,⟨nd,rfl⟩⟩)|((with_reducible refine gate_callee (f:=111) rfl ?_);refine goesL_ (some 14) rfl rfl Try.func111 (by kernel_rfl) rfl #[.bool true] rfl ml ?_;(with_reducible refine (impl_bit.calls true A1 _ A8.out).mono ?_);rintro e w' ⟨rfl,⟨nd,rfl⟩⟩;refine ⟨_,rfl,?_⟩));go_ret;exact ⟨er,tb HB⟩
 ·replace c3:=Bool.eq_false_iff.mpr c3;subst c3
  have H1:((impl_bit.f false).bind fun A9=>(some A9))=some r:=by rw [if_neg (show ¬ (false=true) by decide)] at H;exact H
  clear H;have H:=H1;clear H1;replace H:=ob H;obtain ⟨A9,A110,H⟩:=H;replace H:(some A9)=some r:=H;have A11:=Aside0.mk A110;clear A110;obtain rfl:=os H
  go_enter Try.func65,Try.ntmps65
  go_wp2_with (first|((with_reducible refine gate_dst (N:=1) rfl ?_);refine bx (N:=1) (cs:=#[.int .i64 Aa,.string A0]) (t:=26) ?_;intro A3 hg w12 hbox hb;have A5:=Aside0.mk (hbox);have Ab:=Aside0.mk ((by rw [hg];exact (below_size (tb HB)):w.heap.size≤A3));have Ac:=Aside0.mk ((by rw [hg];exact (below_size (tb HB)):w.heap.size≤A3));replace HB:=Aside0.mk (below_step (tb HB) hb);clear hb hbox hg;have hcz13__:=c2_ A5;have hfz13__:=f_ A5)|((with_reducible refine gate_callee (f:=112) rfl ?_);refine goesL_ (some 6) rfl rfl Try.func112 (by kernel_rfl) rfl #[.string A0,.string (⟨#[49]⟩:ByteArray)] rfl ml ?_;(with_reducible refine (strings_Contains.calls A0 (⟨#[49]⟩:ByteArray) false _ A2.out).mono ?_);rintro e w' ⟨rfl,⟨nd,rfl⟩⟩;refine ⟨_,rfl,?_⟩)|((with_reducible refine gate_callee (f:=111) rfl ?_);refine goesL_ (some 14) rfl rfl Try.func111 (by kernel_rfl) rfl #[.bool false] rfl ml ?_;(with_reducible refine (impl_bit.calls false A9 _ A11.out).mono ?_);rintro e w' ⟨rfl,⟨nd,rfl⟩⟩;refine ⟨_,rfl,?_⟩));go_ret;exact ⟨er,tb HB⟩
def impl_decide.f:Nat→List Bool→Int→ByteArray→Option (Int)
 | 0,_,_,_=>none
 | k + 1,l0,a1_0,a1_1=>(impl_Table_known.f a1_0 a1_1).bind fun A5=>(if A5 ≥ 0 then (some A5) else (if 1≤(l0.length:Int) then ((impl_Table_half.f a1_0 a1_1 0).bind fun bt104=>((impl_decide.f k (l0.drop 1) bt104.1 bt104.2).bind fun A4=>(if 0 < (l0.length:Int) then (if ((rdOf false l0 0) == (A4 == 0))=true then (some A4) else ((impl_Table_half.f a1_0 a1_1 1).bind fun bt109=>((impl_decide.f k (l0.drop 1) bt109.1 bt109.2).bind fun A6=>(some A6)))) else (none)))) else (none)))
set_option maxHeartbeats 8000000 in
set_option maxRecDepth 100000 in
theorem impl_decide.calls (k:Nat):∀ (A0:Option Addr) (c0:Nat) (l0:List Bool) (a1_0:Int) (a1_1:ByteArray) (r:Int) (w:World) (hr0:Kd.C Kd.bool w A0 l0.length l0) (hc0:l0.length≤c0) (h:impl_decide.f k l0 a1_0 a1_1=some r),
  Calls Try.prog 59 #[.slice A0 l0.length c0,.agg #[.int .i64 a1_0,.string a1_1]] w fun e w'=>e = .returned (.int .i64 r)∧Below w.heap.size w w':=by
 induction k using Nat.strongRecOn with
 | _ k ih =>
 intro A0 c0 l0 a1_0 a1_1 r w hr0 hc0 h
 cases k with
 | zero=>exact absurd h (by simp [impl_decide.f])
 | succ k =>
 simp only [impl_decide.f] at h;have hu26:=Try.underlying26;have HR0:=Aside0.mk hr0;have HC0:=Aside0.mk hc0;clear hr0 hc0;have HB:=Aside0.mk (Below.refl w.heap.size w);have H:((impl_Table_known.f a1_0 a1_1).bind fun A5=>(if A5 ≥ 0 then (some A5) else (if 1≤(l0.length:Int) then ((impl_Table_half.f a1_0 a1_1 0).bind fun bt104=>((impl_decide.f k (l0.drop 1) bt104.1 bt104.2).bind fun A4=>(if 0 < (l0.length:Int) then (if ((rdOf false l0 0) == (A4 == 0))=true then (some A4) else ((impl_Table_half.f a1_0 a1_1 1).bind fun bt109=>((impl_decide.f k (l0.drop 1) bt109.1 bt109.2).bind fun A6=>(some A6)))) else (none)))) else (none))))=some r:=h;clear h;replace H:=ob H;obtain ⟨A5,A30,H⟩:=H;replace H:(if A5 ≥ 0 then (some A5) else (if 1≤(l0.length:Int) then ((impl_Table_half.f a1_0 a1_1 0).bind fun bt104=>((impl_decide.f k (l0.drop 1) bt104.1 bt104.2).bind fun A4=>(if 0 < (l0.length:Int) then (if ((rdOf false l0 0) == (A4 == 0))=true then (some A4) else ((impl_Table_half.f a1_0 a1_1 1).bind fun bt109=>((impl_decide.f k (l0.drop 1) bt109.1 bt109.2).bind fun A6=>(some A6)))) else (none)))) else (none)))=some r:=H;have A3:=Aside0.mk A30;clear A30
 by_cases c4:A5 ≥ 0
 ·rw [if_pos c4] at H;have c4b0:decide (0≤A5)=true:=decide_eq_true c4;clear c4;obtain rfl:=os H
  go_enter Try.func59,Try.ntmps59
  go_wp2_with (first|((with_reducible refine gate_dst (N:=3) rfl ?_);refine bx (N:=3) (cs:=#[.int .i64 a1_0,.string a1_1]) (t:=26) ?_;intro A2 hg w5 hbox hb;have A1:=Aside0.mk (hbox);have Ac:=Aside0.mk ((by rw [hg];exact (below_size (tb HB)):w.heap.size≤A2));have Ad:=Aside0.mk ((by rw [hg];exact (below_size (tb HB)):w.heap.size≤A2));replace HB:=Aside0.mk (below_step (tb HB) hb);clear hb hbox hg;have hcz6__:=c2_ A1;have hfz6__:=f_ A1)|((with_reducible refine gate_callee (f:=65) rfl ?_);refine goesL_ (some 8) rfl rfl Try.func65 (by kernel_rfl) rfl #[.agg #[.int .i64 a1_0,.string a1_1]] rfl ml ?_;(with_reducible refine (impl_Table_known.calls a1_0 a1_1 A5 _ A3.out).mono ?_);rintro e w7 ⟨rfl,hb⟩;refine ⟨_,rfl,?_⟩;replace A1:=Aside0.mk (blk_below (g:=A2) (o := .cells #[.int .i64 a1_0,.string a1_1] 26 (0,0)) (dr A1) hb);replace HB:=Aside0.mk (below_step (tb HB) hb);(try clear hb);(try clear hb2);(try clear hk);(try clear hi)));go_ret;exact ⟨er,tb HB⟩
 ·rw [if_neg c4] at H;have c4b0:decide (0≤A5)=false:=decide_eq_false c4;clear c4
  by_cases c8:1≤(l0.length:Int)
  ·rw [if_pos c8] at H;have c8b0:=eq_true c8;have c8b1:decide (1≤(l0.length:Int))=true:=decide_eq_true c8;clear c8;replace H:=ob H;obtain ⟨⟨A7,A8⟩,A90,H⟩:=H;replace H:((impl_decide.f k (l0.drop 1) A7 A8).bind fun A4=>(if 0 < (l0.length:Int) then (if ((rdOf false l0 0) == (A4 == 0))=true then (some A4) else ((impl_Table_half.f a1_0 a1_1 1).bind fun bt109=>((impl_decide.f k (l0.drop 1) bt109.1 bt109.2).bind fun A6=>(some A6)))) else (none)))=some r:=H;have A9:=Aside0.mk A90;clear A90;replace H:=ob H;obtain ⟨A4,A100,H⟩:=H;replace H:(if 0 < (l0.length:Int) then (if ((rdOf false l0 0) == (A4 == 0))=true then (some A4) else ((impl_Table_half.f a1_0 a1_1 1).bind fun bt109=>((impl_decide.f k (l0.drop 1) bt109.1 bt109.2).bind fun A6=>(some A6)))) else (none))=some r:=H;have A10:=Aside0.mk A100;clear A100
   by_cases c11:0 < (l0.length:Int)
   ·rw [if_pos c11] at H;have c11b0:decide (0 < (l0.length:Int))=true:=decide_eq_true c11;have c11b1:decide (0 < l0.length)=true:=decide_eq_true (by omega);clear c11
    by_cases c12:((rdOf false l0 0) == (A4 == 0))=true
    ·rw [if_pos c12] at H;have c12b0:((rdOf false l0 0) == (A4 == 0))=true:=c12
     (try (have c12b1:decide ((rdOf false l0 0)=(A4 == 0))=true:=by simpa using c12))
     (try (have c12b2:((rdOf false l0 0) == (A4 == 0))=true:=by simpa using c12))
     clear c12;obtain rfl:=os H
     go_enter Try.func59,Try.ntmps59
     try go_wp2_with (first|((with_reducible refine gate_dst (N:=3) rfl ?_);refine bx (N:=3) (cs:=#[.int .i64 a1_0,.string a1_1]) (t:=26) ?_;intro A2 hg w13 hbox hb;have A1:=Aside0.mk (hbox);have Ac:=Aside0.mk ((by rw [hg];exact (below_size (tb HB)):w.heap.size≤A2));have Ad:=Aside0.mk ((by rw [hg];exact (below_size (tb HB)):w.heap.size≤A2));replace HB:=Aside0.mk (below_step (tb HB) hb);clear hb hbox hg;have hcz14__:=c2_ A1;have hfz14__:=f_ A1)|((with_reducible refine gate_callee (f:=65) rfl ?_);refine goesL_ (some 8) rfl rfl Try.func65 (by kernel_rfl) rfl #[.agg #[.int .i64 a1_0,.string a1_1]] rfl ml ?_;(with_reducible refine (impl_Table_known.calls a1_0 a1_1 A5 _ A3.out).mono ?_);rintro e w15 ⟨rfl,hb⟩;refine ⟨_,rfl,?_⟩;replace A1:=Aside0.mk (blk_below (g:=A2) (o := .cells #[.int .i64 a1_0,.string a1_1] 26 (0,0)) (dr A1) hb);replace HB:=Aside0.mk (below_step (tb HB) hb);(try clear hb);(try clear hb2);(try clear hk);(try clear hi)))
     have n0_:=Aside0.mk (blk_drew A1.out);have n1_:=Aside0.mk (below_drew1 HB.out);clear A1;clear HB;have A1:=n0_;have HB:=n1_;clear n0_ n1_;obtain ⟨i017,hi017,_,hsz17,_⟩:=info_parts info4;obtain ⟨A17,hcut17,hA17,hC17⟩:=print_drop_of (P:=Try.prog) Value.bool false 24 4 .i64 Try.underlying24 hi017 hsz17 A0 c0 l0 1 (by omega) (od) HC0.out;have HR103:=Aside0.mk (Kd.C_of_reads (h1:=fun _=>rfl) (hA17 _ (Kd.reads_of_C HR0.out)));have HC103:=Aside0.mk hC17;clear hA17 hC17 hi017 hsz17;refine start_ (n:=6) (S:=fun w'=>w'.cell? ⟨A2,0,none⟩=some (.int .i64 a1_0)∧w'.cell? ⟨A2,1,none⟩=some (.string a1_1)) (ds:=[]) (tf 0 6) (by kernel_rfl) rfl rfl ⟨(blk_cell A1.out 0).trans rfl,(blk_cell A1.out 1).trans rfl⟩ (fun hHeld=>?_);generalize w15.drew=w16 at A1 HB HR103 hHeld ⊢;refine pure_ (i:=0) (N:=some 12) (v:=?_) (a':=?_) (tf 1 5) rfl rfl (by kernel_rfl) (fun _ _ _ h=>h) (Or.inl ⟨by rfl,?_⟩) ?_ ?_;rotate_left
     ·intro w';go_simp;with_reducible rfl
     rotate_left
     ·simp only [Act.put,s1,s2,s3,i64_w,i32_w];rfl
     refine pure_ (i:=1) (N:=some 13) (v:=?_) (a':=?_) (tf 2 4) rfl rfl (by kernel_rfl) (fun _ _ _ h=>h) (Or.inl ⟨by rfl,?_⟩) ?_ ?_;rotate_left
     ·intro w';go_simp;with_reducible rfl
     rotate_left
     ·simp only [Act.put,s1,s2,s3,i64_w,i32_w];rfl
     refine take_ (i:=2) (N:=some 14) (v:=?_) (a':=?_) (tf 3 3) rfl rfl (by kernel_rfl) (fun _ _ _ h=>h) (Or.inl ⟨by rfl,?_⟩) hHeld ?_ ?_;rotate_left
     ·rintro w' ⟨s0,s1⟩;go_simp;with_reducible rfl
     rotate_left
     ·simp only [Act.put,s1,s2,s3,i64_w,i32_w];rfl
     refine one_ (i:=3) (N:=some 15) (tf 4 2) rfl rfl (by kernel_rfl) (by decide) (fun K hK=>?_);refine goes_ Try.func67 (by kernel_rfl) rfl #[.agg #[.int .i64 a1_0,.string a1_1],.int .i64 0] (by rfl) rfl rfl ml ?_
     with_reducible refine (impl_Table_half.calls a1_0 a1_1 0 A7 A8 _ A9.out).mono ?_
     rintro e w18 ⟨rfl,hb⟩;refine ⟨_,rfl,?_⟩;have n0_:=Aside0.mk (blk_below (g:=A2) (o := .cells #[.int .i64 a1_0,.string a1_1] 26 (0,0)) (dr A1) hb);have n1_:=Aside0.mk (below_step (tb HB) hb);clear A1;clear HB;have A1:=n0_;have HB:=n1_;clear n0_ n1_;(try clear hb);(try clear hb2);(try clear hk);(try clear hi);refine hK.out _ _ ⟨(blk_cell A1.out 0).trans rfl,(blk_cell A1.out 1).trans rfl⟩ (fun hHeld=>?_);clear hK K;refine norm_ (a':=?_) ?_ ?_;rotate_left
     ·show Act.put _ (some 15) _=_
      simp only [Act.put,s1,s2,s3,i64_w,i32_w];rfl
     refine one_ (i:=4) (N:=some 16) (tf 5 1) rfl rfl (by kernel_rfl) (by decide) (fun K hK=>?_);refine goes_ Try.func59 (by kernel_rfl) rfl #[.slice A17 (l0.drop 1).length (c0 - 1),.agg #[.int .i64 A7,.string A8]] (by rfl) rfl rfl (by (try simp only [List.map_toArray,List.map_cons,List.map_nil]);first|done|(rw [show (l0.drop 1).length=(l0.length - 1) from List.length_drop] <;> rfl)|rfl|(simp only [List.length_drop,List.length_take];rfl)) ?_
     with_reducible refine (ih k (by omega) _ _ (l0.drop 1) A7 A8 A4 _ ?side1 ?side2 A10.out).mono ?_
     (case side1=>exact cw (Kd.C_below HR103.out HB.out))
     (case side2=>exact HC103.out)
     rintro e w19 ⟨rfl,hb⟩;refine ⟨_,rfl,?_⟩;have n0_:=Aside0.mk (blk_below (g:=A2) (o := .cells #[.int .i64 a1_0,.string a1_1] 26 (0,0)) (dr A1) hb);have n1_:=Aside0.mk (below_step (tb HB) hb);clear A1;clear HB;have A1:=n0_;have HB:=n1_;clear n0_ n1_;(try clear hb);(try clear hb2);(try clear hk);(try clear hi);refine hK.out _ _ ⟨(blk_cell A1.out 0).trans rfl,(blk_cell A1.out 1).trans rfl⟩ (fun hHeld=>?_);clear hK K;refine norm_ (a':=?_) ?_ ?_;rotate_left
     ·show Act.put _ (some 16) _=_
      simp only [Act.put,s1,s2,s3,i64_w,i32_w];rfl
     refine pure_ (i:=5) (N:=some 6) (v:=?_) (a':=?_) (tf 6 0) rfl rfl (by kernel_rfl) (fun _ _ _ h=>h) (Or.inl ⟨by rfl,?_⟩) ?_ ?_;rotate_left
     ·intro w';go_simp;with_reducible rfl
     rotate_left
     ·simp only [Act.put,s1,s2,s3,i64_w,i32_w];rfl
     refine done_ (by kernel_rfl) ?_;have p107:0≤(0:Int):=(by omega);have q107:0 < (l0.length:Int):=od;obtain ⟨ad107,e107,hx107_0⟩:=Kd.at_bool HR0.out 0 p107 q107;cases e107;have qi107:(0 < l0.length)=True:=eq_true (by omega)
     (try rw [show ((0:Int)).toNat=0 from rfl] at hx107_0)
     (try rw [Addr.add_zero'] at hx107_0)
     replace hx107_0:=ct HB hx107_0;replace p107:=eq_true p107;replace q107:=eq_true q107
     try go_wp2
     go_ret;exact ⟨by first|exact er|(simp [errW_none,errW_some,show ¬ l0=[] from by intro h_;rw [h_] at c11b0;simp at c11b0];done)|(simp [*,show ¬ l0=[] from by intro h_;rw [h_] at c11b0;simp at c11b0];done)|(simp [errW_none,errW_some,show ¬ l0=[] from by intro h_;rw [h_] at c11b0;simp at c11b0] <;> rfl),tb HB⟩
    ·rw [if_neg c12] at H
     have c12b0:((rdOf false l0 0) == (A4 == 0))=false:=by simpa using c12
     (try (have c12b1:decide ((rdOf false l0 0)=(A4 == 0))=false:=by simpa using c12))
     (try (have c12b2:((rdOf false l0 0) == (A4 == 0))=false:=by simpa using c12))
     (try (have c12b3:¬ ((rdOf false l0 0)=(A4 == 0)):=by simpa using c12))
     clear c12;have c20b0:=eq_true (od:1≤(l0.length:Int));replace H:=ob H;obtain ⟨⟨Aa,Ab⟩,A210,H⟩:=H;replace H:((impl_decide.f k (l0.drop 1) Aa Ab).bind fun A6=>(some A6))=some r:=H;have A21:=Aside0.mk A210;clear A210;replace H:=ob H;obtain ⟨A6,A220,H⟩:=H;replace H:(some A6)=some r:=H;have A22:=Aside0.mk A220;clear A220;obtain rfl:=os H
     go_enter Try.func59,Try.ntmps59
     try go_wp2_with (first|((with_reducible refine gate_dst (N:=3) rfl ?_);refine bx (N:=3) (cs:=#[.int .i64 a1_0,.string a1_1]) (t:=26) ?_;intro A2 hg w23 hbox hb;have A1:=Aside0.mk (hbox);have Ac:=Aside0.mk ((by rw [hg];exact (below_size (tb HB)):w.heap.size≤A2));have Ad:=Aside0.mk ((by rw [hg];exact (below_size (tb HB)):w.heap.size≤A2));replace HB:=Aside0.mk (below_step (tb HB) hb);clear hb hbox hg;have hcz24__:=c2_ A1;have hfz24__:=f_ A1)|((with_reducible refine gate_callee (f:=65) rfl ?_);refine goesL_ (some 8) rfl rfl Try.func65 (by kernel_rfl) rfl #[.agg #[.int .i64 a1_0,.string a1_1]] rfl ml ?_;(with_reducible refine (impl_Table_known.calls a1_0 a1_1 A5 _ A3.out).mono ?_);rintro e w25 ⟨rfl,hb⟩;refine ⟨_,rfl,?_⟩;replace A1:=Aside0.mk (blk_below (g:=A2) (o := .cells #[.int .i64 a1_0,.string a1_1] 26 (0,0)) (dr A1) hb);replace HB:=Aside0.mk (below_step (tb HB) hb);(try clear hb);(try clear hb2);(try clear hk);(try clear hi)))
     have n0_:=Aside0.mk (blk_drew A1.out);have n1_:=Aside0.mk (below_drew1 HB.out);clear A1;clear HB;have A1:=n0_;have HB:=n1_;clear n0_ n1_;obtain ⟨i027,hi027,_,hsz27,_⟩:=info_parts info4;obtain ⟨A27,hcut27,hA27,hC27⟩:=print_drop_of (P:=Try.prog) Value.bool false 24 4 .i64 Try.underlying24 hi027 hsz27 A0 c0 l0 1 (by omega) (od) HC0.out;have HR103:=Aside0.mk (Kd.C_of_reads (h1:=fun _=>rfl) (hA27 _ (Kd.reads_of_C HR0.out)));have HC103:=Aside0.mk hC27;clear hA27 hC27 hi027 hsz27;refine start_ (n:=6) (S:=fun w'=>w'.cell? ⟨A2,0,none⟩=some (.int .i64 a1_0)∧w'.cell? ⟨A2,1,none⟩=some (.string a1_1)) (ds:=[]) (tf 0 6) (by kernel_rfl) rfl rfl ⟨(blk_cell A1.out 0).trans rfl,(blk_cell A1.out 1).trans rfl⟩ (fun hHeld=>?_);generalize w25.drew=w26 at A1 HB HR103 hHeld ⊢;refine pure_ (i:=0) (N:=some 12) (v:=?_) (a':=?_) (tf 1 5) rfl rfl (by kernel_rfl) (fun _ _ _ h=>h) (Or.inl ⟨by rfl,?_⟩) ?_ ?_;rotate_left
     ·intro w';go_simp;with_reducible rfl
     rotate_left
     ·simp only [Act.put,s1,s2,s3,i64_w,i32_w];rfl
     refine pure_ (i:=1) (N:=some 13) (v:=?_) (a':=?_) (tf 2 4) rfl rfl (by kernel_rfl) (fun _ _ _ h=>h) (Or.inl ⟨by rfl,?_⟩) ?_ ?_;rotate_left
     ·intro w';go_simp;with_reducible rfl
     rotate_left
     ·simp only [Act.put,s1,s2,s3,i64_w,i32_w];rfl
     refine take_ (i:=2) (N:=some 14) (v:=?_) (a':=?_) (tf 3 3) rfl rfl (by kernel_rfl) (fun _ _ _ h=>h) (Or.inl ⟨by rfl,?_⟩) hHeld ?_ ?_;rotate_left
     ·rintro w' ⟨s0,s1⟩;go_simp;with_reducible rfl
     rotate_left
     ·simp only [Act.put,s1,s2,s3,i64_w,i32_w];rfl
     refine one_ (i:=3) (N:=some 15) (tf 4 2) rfl rfl (by kernel_rfl) (by decide) (fun K hK=>?_);refine goes_ Try.func67 (by kernel_rfl) rfl #[.agg #[.int .i64 a1_0,.string a1_1],.int .i64 0] (by rfl) rfl rfl ml ?_
     with_reducible refine (impl_Table_half.calls a1_0 a1_1 0 A7 A8 _ A9.out).mono ?_
     rintro e w28 ⟨rfl,hb⟩;refine ⟨_,rfl,?_⟩;have n0_:=Aside0.mk (blk_below (g:=A2) (o := .cells #[.int .i64 a1_0,.string a1_1] 26 (0,0)) (dr A1) hb);have n1_:=Aside0.mk (below_step (tb HB) hb);clear A1;clear HB;have A1:=n0_;have HB:=n1_;clear n0_ n1_;(try clear hb);(try clear hb2);(try clear hk);(try clear hi);refine hK.out _ _ ⟨(blk_cell A1.out 0).trans rfl,(blk_cell A1.out 1).trans rfl⟩ (fun hHeld=>?_);clear hK K;refine norm_ (a':=?_) ?_ ?_;rotate_left
     ·show Act.put _ (some 15) _=_
      simp only [Act.put,s1,s2,s3,i64_w,i32_w];rfl
     refine one_ (i:=4) (N:=some 16) (tf 5 1) rfl rfl (by kernel_rfl) (by decide) (fun K hK=>?_);refine goes_ Try.func59 (by kernel_rfl) rfl #[.slice A27 (l0.drop 1).length (c0 - 1),.agg #[.int .i64 A7,.string A8]] (by rfl) rfl rfl (by (try simp only [List.map_toArray,List.map_cons,List.map_nil]);first|done|(rw [show (l0.drop 1).length=(l0.length - 1) from List.length_drop] <;> rfl)|rfl|(simp only [List.length_drop,List.length_take];rfl)) ?_
     with_reducible refine (ih k (by omega) _ _ (l0.drop 1) A7 A8 A4 _ ?side1 ?side2 A10.out).mono ?_
     (case side1=>exact cw (Kd.C_below HR103.out HB.out))
     (case side2=>exact HC103.out)
     rintro e w29 ⟨rfl,hb⟩;refine ⟨_,rfl,?_⟩;have n0_:=Aside0.mk (blk_below (g:=A2) (o := .cells #[.int .i64 a1_0,.string a1_1] 26 (0,0)) (dr A1) hb);have n1_:=Aside0.mk (below_step (tb HB) hb);clear A1;clear HB;have A1:=n0_;have HB:=n1_;clear n0_ n1_;(try clear hb);(try clear hb2);(try clear hk);(try clear hi);refine hK.out _ _ ⟨(blk_cell A1.out 0).trans rfl,(blk_cell A1.out 1).trans rfl⟩ (fun hHeld=>?_);clear hK K;refine norm_ (a':=?_) ?_ ?_;rotate_left
     ·show Act.put _ (some 16) _=_
      simp only [Act.put,s1,s2,s3,i64_w,i32_w];rfl
     refine pure_ (i:=5) (N:=some 6) (v:=?_) (a':=?_) (tf 6 0) rfl rfl (by kernel_rfl) (fun _ _ _ h=>h) (Or.inl ⟨by rfl,?_⟩) ?_ ?_;rotate_left
     ·intro w';go_simp;with_reducible rfl
     rotate_left
     ·simp only [Act.put,s1,s2,s3,i64_w,i32_w];rfl
     refine done_ (by kernel_rfl) ?_;have p107:0≤(0:Int):=(by omega);have q107:0 < (l0.length:Int):=od;obtain ⟨ad107,e107,hx107_0⟩:=Kd.at_bool HR0.out 0 p107 q107;cases e107;have qi107:(0 < l0.length)=True:=eq_true (by omega)
     (try rw [show ((0:Int)).toNat=0 from rfl] at hx107_0)
     (try rw [Addr.add_zero'] at hx107_0)
     replace hx107_0:=ct HB hx107_0;replace p107:=eq_true p107;replace q107:=eq_true q107
     try go_wp2
     have n0_:=Aside0.mk (blk_drew A1.out);have n1_:=Aside0.mk (below_drew1 HB.out);clear A1;clear HB;have A1:=n0_;have HB:=n1_;clear n0_ n1_;obtain ⟨i031,hi031,_,hsz31,_⟩:=info_parts info4;obtain ⟨A31,hcut31,hA31,hC31⟩:=print_drop_of (P:=Try.prog) Value.bool false 24 4 .i64 Try.underlying24 hi031 hsz31 (some ad107) c0 l0 1 (by omega) (od) HC0.out
     obtain rfl:A27=A31:=by have e_:=(hcut27 w).symm.trans (hcut31 w);injection e_ with e_;injection e_
     have HR108:=Aside0.mk (Kd.C_of_reads (h1:=fun _=>rfl) (hA31 _ (Kd.reads_of_C HR0.out)));have HC108:=Aside0.mk hC31;clear hA31 hC31 hi031 hsz31;refine start_ (n:=6) (S:=fun w'=>w'.cell? ⟨A2,0,none⟩=some (.int .i64 a1_0)∧w'.cell? ⟨A2,1,none⟩=some (.string a1_1)) (ds:=[]) (tf 0 6) (by kernel_rfl) rfl rfl ⟨(blk_cell A1.out 0).trans rfl,(blk_cell A1.out 1).trans rfl⟩ (fun hHeld=>?_);generalize w29.drew=w30 at A1 HB HR108 hHeld ⊢;refine pure_ (i:=0) (N:=some 24) (v:=?_) (a':=?_) (tf 1 5) rfl rfl (by kernel_rfl) (fun _ _ _ h=>h) (Or.inl ⟨by rfl,?_⟩) ?_ ?_;rotate_left
     ·intro w';go_simp;with_reducible rfl
     rotate_left
     ·simp only [Act.put,s1,s2,s3,i64_w,i32_w];rfl
     refine pure_ (i:=1) (N:=some 25) (v:=?_) (a':=?_) (tf 2 4) rfl rfl (by kernel_rfl) (fun _ _ _ h=>h) (Or.inl ⟨by rfl,?_⟩) ?_ ?_;rotate_left
     ·intro w';go_simp;with_reducible rfl
     rotate_left
     ·simp only [Act.put,s1,s2,s3,i64_w,i32_w];rfl
     refine take_ (i:=2) (N:=some 26) (v:=?_) (a':=?_) (tf 3 3) rfl rfl (by kernel_rfl) (fun _ _ _ h=>h) (Or.inl ⟨by rfl,?_⟩) hHeld ?_ ?_;rotate_left
     ·rintro w' ⟨s0,s1⟩;go_simp;with_reducible rfl
     rotate_left
     ·simp only [Act.put,s1,s2,s3,i64_w,i32_w];rfl
     refine one_ (i:=3) (N:=some 27) (tf 4 2) rfl rfl (by kernel_rfl) (by decide) (fun K hK=>?_);refine goes_ Try.func67 (by kernel_rfl) rfl #[.agg #[.int .i64 a1_0,.string a1_1],.int .i64 1] (by rfl) rfl rfl ml ?_
     with_reducible refine (impl_Table_half.calls a1_0 a1_1 1 Aa Ab _ A21.out).mono ?_
     rintro e w32 ⟨rfl,hb⟩;refine ⟨_,rfl,?_⟩;have n0_:=Aside0.mk (blk_below (g:=A2) (o := .cells #[.int .i64 a1_0,.string a1_1] 26 (0,0)) (dr A1) hb);have n1_:=Aside0.mk (below_step (tb HB) hb);clear A1;clear HB;have A1:=n0_;have HB:=n1_;clear n0_ n1_;(try clear hb);(try clear hb2);(try clear hk);(try clear hi);refine hK.out _ _ ⟨(blk_cell A1.out 0).trans rfl,(blk_cell A1.out 1).trans rfl⟩ (fun hHeld=>?_);clear hK K;refine norm_ (a':=?_) ?_ ?_;rotate_left
     ·show Act.put _ (some 27) _=_
      simp only [Act.put,s1,s2,s3,i64_w,i32_w];rfl
     refine one_ (i:=4) (N:=some 28) (tf 5 1) rfl rfl (by kernel_rfl) (by decide) (fun K hK=>?_);refine goes_ Try.func59 (by kernel_rfl) rfl #[.slice A27 (l0.drop 1).length (c0 - 1),.agg #[.int .i64 Aa,.string Ab]] (by rfl) rfl rfl (by (try simp only [List.map_toArray,List.map_cons,List.map_nil]);first|done|(rw [show (l0.drop 1).length=(l0.length - 1) from List.length_drop] <;> rfl)|rfl|(simp only [List.length_drop,List.length_take];rfl)) ?_
     with_reducible refine (ih k (by omega) _ _ (l0.drop 1) Aa Ab A6 _ ?side1 ?side2 A22.out).mono ?_
     (case side1=>exact cw (Kd.C_below HR108.out HB.out))
     (case side2=>exact HC108.out)
     rintro e w33 ⟨rfl,hb⟩;refine ⟨_,rfl,?_⟩;have n0_:=Aside0.mk (blk_below (g:=A2) (o := .cells #[.int .i64 a1_0,.string a1_1] 26 (0,0)) (dr A1) hb);have n1_:=Aside0.mk (below_step (tb HB) hb);clear A1;clear HB;have A1:=n0_;have HB:=n1_;clear n0_ n1_;(try clear hb);(try clear hb2);(try clear hk);(try clear hi);refine hK.out _ _ ⟨(blk_cell A1.out 0).trans rfl,(blk_cell A1.out 1).trans rfl⟩ (fun hHeld=>?_);clear hK K;refine norm_ (a':=?_) ?_ ?_;rotate_left
     ·show Act.put _ (some 28) _=_
      simp only [Act.put,s1,s2,s3,i64_w,i32_w];rfl
     refine pure_ (i:=5) (N:=some 4) (v:=?_) (a':=?_) (tf 6 0) rfl rfl (by kernel_rfl) (fun _ _ _ h=>h) (Or.inl ⟨by rfl,?_⟩) ?_ ?_;rotate_left
     ·intro w';go_simp;with_reducible rfl
     rotate_left
     ·simp only [Act.put,s1,s2,s3,i64_w,i32_w];rfl
     refine done_ (by kernel_rfl) ?_
     try go_wp2
     go_ret;exact ⟨by first|exact er|(simp [errW_none,errW_some,show ¬ l0=[] from by intro h_;rw [h_] at c11b0;simp at c11b0];done)|(simp [*,show ¬ l0=[] from by intro h_;rw [h_] at c11b0;simp at c11b0];done)|(simp [errW_none,errW_some,show ¬ l0=[] from by intro h_;rw [h_] at c11b0;simp at c11b0] <;> rfl),tb HB⟩
   ·rw [if_neg c11] at H;exact absurd H (by simp)
  ·rw [if_neg c8] at H;exact absurd H (by simp)
def impl_within.f (a0:Int) (a1:Int) (a2:Int):Option (Bool):=if a0 ≥ a1 then (some (decide (a0≤a2))) else (some false)
set_option maxHeartbeats 8000000 in
set_option maxRecDepth 100000 in
theorem impl_within.calls (a0:Int) (a1:Int) (a2:Int) (r:Bool) (w:World) (h:impl_within.f a0 a1 a2=some r) :
  Calls Try.prog 61 #[.int .i64 a0,.int .i64 a1,.int .i64 a2] w fun e w'=>e = .returned (.bool r)∧Drawn0 w w':=by
 have H:(if a0 ≥ a1 then (some (decide (a0≤a2))) else (some false))=some r:=h;clear h
 by_cases c4:a0 ≥ a1
 ·rw [if_pos c4] at H;have c4b0:decide (a1≤a0)=true:=decide_eq_true c4;clear c4;obtain rfl:=os H
  go_enter Try.func61,Try.ntmps61
  go_wp2;go_ret;exact ⟨e1,dn⟩
 ·rw [if_neg c4] at H;have c4b0:decide (a1≤a0)=false:=decide_eq_false c4;clear c4;obtain rfl:=os H
  go_enter Try.func61,Try.ntmps61
  go_wp2;go_ret;exact ⟨e1,dn⟩
mutual
def impl_TableOk.j0:Nat→Bool→Int→ByteArray→Option (Bool)
 | 0,_,_,_=>none
 | k + 1,x17,x102000,x102001=>if x17=true then (some false) else (impl_TableOk.l0 k (x102001.size:Int) 0 x102000 x102001)
def impl_TableOk.l0:Nat→Int→Int→Int→ByteArray→Option (Bool)
 | 0,_,_,_,_=>none
 | k + 1,x20,x21,x102000,x102001=>if x21 < x20 then (if 0≤x21 then (if x21 < (x102001.size:Int) then (if (bt x102001 x21)=48 then (impl_TableOk.l0 k x20 (wrap64 (x21 + 1)) x102000 x102001) else (if (bt x102001 x21)=49 then (impl_TableOk.l0 k x20 (wrap64 (x21 + 1)) x102000 x102001) else (some false))) else (none)) else (none)) else (some true)
end
def impl_TableOk.f (k:Nat) (A2:Int) (A1:ByteArray):Option (Bool):=(impl_within.f A2 0 12).bind fun A7=>(if A7=true then (if 0≤(IntKind.u64.wrap (A2)) then (impl_TableOk.j0 k ((A1.size:Int) != (shl .i64 1 (IntKind.u64.wrap (A2)))) A2 A1) else (none)) else (impl_TableOk.j0 k true A2 A1))
set_option maxHeartbeats 8000000 in
set_option maxRecDepth 100000 in
theorem impl_TableOk.calls (k:Nat) (A2:Int) (A1:ByteArray) (r:Bool) (w:World) (h:impl_TableOk.f k A2 A1=some r) :
  Calls Try.prog 45 #[.agg #[.int .i64 A2,.string A1]] w fun e w'=>e = .returned (.bool r)∧Below w.heap.size w w':=by
 have hu26:=Try.underlying26;have HB:=Aside0.mk (Below.refl w.heap.size w);have H:((impl_within.f A2 0 12).bind fun A7=>(if A7=true then (if 0≤(IntKind.u64.wrap (A2)) then (impl_TableOk.j0 k ((A1.size:Int) != (shl .i64 1 (IntKind.u64.wrap (A2)))) A2 A1) else (none)) else (impl_TableOk.j0 k true A2 A1)))=some r:=h;clear h;have HC2:=Aside0.mk H;clear H
 go_enter Try.func45,Try.ntmps45
 go_upto_region 1 with (first|((with_reducible refine gate_dst (N:=1) rfl ?_);(try (refine gate_guard (by rfl) ?_;dsimp only));refine bx (N:=1) (cs:=#[.int .i64 A2,.string A1]) (t:=26) ?_;intro A5 hg w3 hbox hb;have A3:=Aside0.mk (hbox);have GW101:=Aside0.mk ((by rw [hg];exact (below_size (tb HB)):w.heap.size≤A5));have GE101:=Aside0.mk ((by rw [hg];exact (below_size (tb HB)):w.heap.size≤A5));replace HB:=Aside0.mk (below_step (tb HB) hb);clear hb hbox hg))
 (try simp only [Act.put,List.setIfInBounds_toArray,List.set_cons_zero,List.set_cons_succ])
 go_cut [17] (fun v17 wc=>∃ (kq:Nat) (A6:Bool),v17 = .bool A6∧Aside0 (impl_TableOk.j0 kq A6 A2 A1=some r)∧Aside0 (kq≤k)∧Aside0 (wc.heap[A5]? = some (.cells #[.int .i64 A2,.string A1] 26 (0,0)))∧Aside0 (Below w.heap.size w wc))
 case first =>
  have H:=HC2.out;clear HC2;replace H:=ob H;obtain ⟨A7,A40,H⟩:=H;replace H:(if A7=true then (if 0≤(IntKind.u64.wrap (A2)) then (impl_TableOk.j0 k ((A1.size:Int) != (shl .i64 1 (IntKind.u64.wrap (A2)))) A2 A1) else (none)) else (impl_TableOk.j0 k true A2 A1))=some r:=H;have A4:=Aside0.mk A40;clear A40
  by_cases c5:A7=true
  ·subst c5
   have H1:(if 0≤(IntKind.u64.wrap (A2)) then (impl_TableOk.j0 k ((A1.size:Int) != (shl .i64 1 (IntKind.u64.wrap (A2)))) A2 A1) else (none))=some r:=by rw [if_pos rfl] at H;exact H
   clear H;have H:=H1;clear H1;obtain ⟨ji6,hji6⟩:∃ j_:Int,(IntKind.u64.wrap (A2))=j_:=⟨_,rfl⟩
   replace H:(if 0≤(ji6) then (impl_TableOk.j0 k ((A1.size:Int) != (shl .i64 1 (ji6))) A2 A1) else (none))=some r:=by first|(rw [hji6] at H;exact H)|(simp only [hji6] at H ⊢;exact H)
   (try rw [hji6] at A4)
   by_cases c7:0≤(ji6)
   ·rw [if_pos c7] at H;have c7b0:=eq_true c7;have c7b1:decide (0≤(ji6))=true:=decide_eq_true c7;clear c7;obtain ⟨ji8,hji8⟩:∃ j_:Int,(shl .i64 1 (ji6))=j_:=⟨_,rfl⟩
    replace H:(impl_TableOk.j0 k ((A1.size:Int) != (ji8)) A2 A1)=some r:=by first|(rw [hji8] at H;exact H)|(simp only [hji8] at H ⊢;exact H)
    (try rw [hji8] at A4)
    have hji8_:(IntKind.i64.wrap (1 * 2 ^ min (ji6).toNat 64))=ji8:=hji8;have hji8z:(ji6)≤64→(IntKind.i64.wrap (1 * 2 ^ (ji6).toNat))=ji8:=shl_small hji8
    have hji8u:(IntKind.i64.wrap (2 ^ min (ji6).toNat 64))=ji8:=by have h_:=hji8_;rw [Int.one_mul] at h_;exact h_
    have hji8v:(ji6)≤64→(IntKind.i64.wrap (2 ^ (ji6).toNat))=ji8:=fun hle_=>by have h_:=hji8z hle_;rw [Int.one_mul] at h_;exact h_
    have hji8y:(wrap64 (1 * 2 ^ min (ji6).toNat 64))=ji8:=(i64_w _).symm.trans hji8_
    have hji8x:(ji6)≤64→(wrap64 (1 * 2 ^ (ji6).toNat))=ji8:=fun h_=>(i64_w _).symm.trans (hji8z h_)
    have H':=Aside0.mk H;clear H;have hcz9__:=c2_ A3;have hfz9__:=f_ A3;go_wp2_with (first|((with_reducible refine gate_callee (f:=61) rfl ?_);refine goesL_ (some 6) rfl rfl Try.func61 (by kernel_rfl) rfl #[.int .i64 A2,.int .i64 0,.int .i64 12] rfl ml ?_;(with_reducible refine (impl_within.calls A2 0 12 true _ A4.out).mono ?_);rintro e w' ⟨rfl,⟨nd,rfl⟩⟩;refine ⟨_,rfl,?_⟩));go_meet
    case rel=>exact ⟨_,(((A1.size:Int) != (ji8))),(by first|rfl|(simp;done)|(simp only [← hji8] <;> (first|rfl|simp))|(simp [*];done)),(by first|exact H'|(rw [hji8];exact H')),⟨by first|omega|exact Nat.le_refl _⟩,⟨dr A3⟩,⟨by exact tb HB⟩⟩
   ·rw [if_neg c7] at H;exact absurd H (by simp)
  ·replace c5:=Bool.eq_false_iff.mpr c5;subst c5
   have H1:(impl_TableOk.j0 k true A2 A1)=some r:=by rw [if_neg (show ¬ (false=true) by decide)] at H;exact H
   clear H;have H:=H1;clear H1;have H':=Aside0.mk H;clear H;have hcz10__:=c2_ A3;have hfz10__:=f_ A3;go_wp2_with (first|((with_reducible refine gate_callee (f:=61) rfl ?_);refine goesL_ (some 6) rfl rfl Try.func61 (by kernel_rfl) rfl #[.int .i64 A2,.int .i64 0,.int .i64 12] rfl ml ?_;(with_reducible refine (impl_within.calls A2 0 12 false _ A4.out).mono ?_);rintro e w' ⟨rfl,⟨nd,rfl⟩⟩;refine ⟨_,rfl,?_⟩));go_meet
   case rel=>exact ⟨_,(true),(by first|rfl|(simp;done)|(simp [*];done)),(by first|exact H'|(rw [hji8];exact H')),⟨by first|omega|exact Nat.le_refl _⟩,⟨dr A3⟩,⟨by exact tb HB⟩⟩
 case rest =>
  clear HC2;(try clear p2);(try clear c4);(try clear c5);(try clear c6);(try clear p6);(try clear c7);(try clear c7b0);(try clear c7b1);(try clear hcz10__);(try clear hcz9__);(try clear hfz10__);(try clear hfz9__);obtain ⟨kq,A6,rfl,HA,HJ1,A3,HB⟩:=hcut
  cases kq with
  | zero=>exact absurd HA.out (by simp [impl_TableOk.j0])
  | succ kj1 =>
   have H:=HA.out;clear HA;simp only [impl_TableOk.j0] at H
   by_cases c11:A6=true
   ·subst c11
    have H1:(some false)=some r:=by rw [if_pos rfl] at H;exact H
    clear H;have H:=H1;clear H1;obtain rfl:=os H;go_wp2;go_ret;exact ⟨er,tb HB⟩
   ·replace c11:=Bool.eq_false_iff.mpr c11;subst c11
    have H1:(impl_TableOk.l0 kj1 (A1.size:Int) 0 A2 A1)=some r:=by rw [if_neg (show ¬ (false=true) by decide)] at H;exact H
    clear H;have H:=H1;clear H1;have H':=Aside0.mk H;clear H;have hcz12__:=c2_ A3;have hfz12__:=f_ A3;go_wp2
    go_loopg [21] kj1 (fun kq v21 w'=>∃ (A0:Int),v21 = .int .i64 A0∧Aside0 (impl_TableOk.l0 kq (A1.size:Int) A0 A2 A1=some r)∧Aside0 (kq≤kj1)∧Aside0 (w'.heap[A5]? = some (.cells #[.int .i64 A2,.string A1] 26 (0,0)))∧Aside0 (Below w.heap.size w w'))
    case atStart=>exact ⟨(0),(by first|rfl|(simp;done)|(simp [*];done)),H',⟨Nat.le_refl _⟩,⟨dr A3⟩,⟨by exact tb HB⟩⟩
    case round =>
     clear H';(try clear c1);(try clear p2);(try clear c4);(try clear c5);(try clear c6);(try clear p6);(try clear c7);(try clear c7b0);(try clear c7b1);(try clear c11);(try clear hcz10__);(try clear hcz12__);(try clear hcz9__);(try clear hfz10__);(try clear hfz12__);(try clear hfz9__);(try clear p2);(try clear p6);obtain ⟨A0,rfl,HA,HK2,A3,HB⟩:=hrel
     cases gk with
     | zero=>exact absurd HA.out (by simp [impl_TableOk.l0])
     | succ k2 =>
      have H:=HA.out;clear HA;simp only [impl_TableOk.l0] at H
      by_cases c13:A0 < (A1.size:Int)
      ·rw [if_pos c13] at H;have c13b0:decide (A0 < (A1.size:Int))=true:=decide_eq_true c13;clear c13
       by_cases c14:0≤A0
       ·rw [if_pos c14] at H;have c14b0:decide (0≤A0)=true:=decide_eq_true c14;clear c14
        by_cases c15:A0 < (A1.size:Int)
        ·rw [if_pos c15] at H;have c15b0:decide (A0 < (A1.size:Int))=true:=decide_eq_true c15;clear c15
         by_cases c17:(bt A1 A0)=48
         ·rw [if_pos c17] at H;have c17b0:((bt A1 A0) == 48)=true:=beq_iff_eq.mpr c17;have c17b1:((bt A1 A0) != 48)=false:=bne_eq_false_iff_eq.mpr c17;clear c17;have H':=Aside0.mk H;clear H;have hcz18__:=c2_ A3;have hfz18__:=f_ A3;have p16:0≤(A0:Int):=od;have q16:A0 < (A1.size:Int):=od;have hx16:=bt_at A1 A0;replace p16:=eq_true p16;replace q16:=eq_true q16;go_wp2;go_roundg k2
          case measure=>have:=HJ1.out;have:=HK2.out;omega
          case rel=>exact ⟨(wrap64 (A0 + 1)),(by first|rfl|(simp;done)|(simp [*];done)),(by first|exact H'|(rw [hji8];exact H')),⟨by have:=HJ1.out;have:=HK2.out;omega⟩,⟨dr A3⟩,⟨by exact tb HB⟩⟩
         ·rw [if_neg c17] at H;have c17b0:((bt A1 A0) == 48)=false:=beq_eq_false_iff_ne.mpr c17;have c17b1:((bt A1 A0) != 48)=true:=bne_iff_ne.mpr c17
          by_cases c20:(bt A1 A0)=49
          ·rw [if_pos c20] at H;have c20b0:((bt A1 A0) == 49)=true:=beq_iff_eq.mpr c20;have c20b1:((bt A1 A0) != 49)=false:=bne_eq_false_iff_eq.mpr c20;clear c20;have H':=Aside0.mk H;clear H;have hcz21__:=c2_ A3;have hfz21__:=f_ A3;have p16:0≤(A0:Int):=od;have q16:A0 < (A1.size:Int):=od;have hx16:=bt_at A1 A0;replace p16:=eq_true p16;replace q16:=eq_true q16;have p19:0≤(A0:Int):=od;have q19:A0 < (A1.size:Int):=od;have hx19:=bt_at A1 A0;replace p19:=eq_true p19;replace q19:=eq_true q19;go_wp2;go_roundg k2
           case measure=>have:=HJ1.out;have:=HK2.out;omega
           case rel=>exact ⟨(wrap64 (A0 + 1)),(by first|rfl|(simp;done)|(simp [*];done)),(by first|exact H'|(rw [hji8];exact H')),⟨by have:=HJ1.out;have:=HK2.out;omega⟩,⟨dr A3⟩,⟨by exact tb HB⟩⟩
          ·rw [if_neg c20] at H;have c20b0:((bt A1 A0) == 49)=false:=beq_eq_false_iff_ne.mpr c20;have c20b1:((bt A1 A0) != 49)=true:=bne_iff_ne.mpr c20;obtain rfl:=os H;have hcz22__:=c2_ A3;have hfz22__:=f_ A3;have p16:0≤(A0:Int):=od;have q16:A0 < (A1.size:Int):=od;have hx16:=bt_at A1 A0;replace p16:=eq_true p16;replace q16:=eq_true q16;have p19:0≤(A0:Int):=od;have q19:A0 < (A1.size:Int):=od;have hx19:=bt_at A1 A0;replace p19:=eq_true p19;replace q19:=eq_true q19;go_wp2;go_ret;exact ⟨er,tb HB⟩
        ·rw [if_neg c15] at H;exact absurd H (by simp)
       ·rw [if_neg c14] at H;exact absurd H (by simp)
      ·rw [if_neg c13] at H;have c13b0:decide (A0 < (A1.size:Int))=false:=decide_eq_false c13;clear c13;obtain rfl:=os H;go_wp2;go_ret;exact ⟨er,tb HB⟩
def impl_rowed.f (k:Nat) (l0:List Bool) (a1_0:Int) (a1_1:ByteArray):Option (Bool):=(impl_TableOk.f k a1_0 a1_1).bind fun A4=>(if A4=true then (some ((l0.length:Int) == a1_0)) else (some false))
set_option maxHeartbeats 8000000 in
set_option maxRecDepth 100000 in
theorem impl_rowed.calls (k:Nat) (A0:Option Addr) (c0:Nat) (l0:List Bool) (a1_0:Int) (a1_1:ByteArray) (r:Bool) (w:World) (hr0:Kd.C Kd.bool w A0 l0.length l0) (hc0:l0.length≤c0) (h:impl_rowed.f k l0 a1_0 a1_1=some r) :
  Calls Try.prog 58 #[.slice A0 l0.length c0,.agg #[.int .i64 a1_0,.string a1_1]] w fun e w'=>e = .returned (.bool r)∧Below w.heap.size w w':=by
 have hu26:=Try.underlying26;have HR0:=Aside0.mk hr0;have HC0:=Aside0.mk hc0;clear hr0 hc0;have HB:=Aside0.mk (Below.refl w.heap.size w);have H:((impl_TableOk.f k a1_0 a1_1).bind fun A4=>(if A4=true then (some ((l0.length:Int) == a1_0)) else (some false)))=some r:=h;clear h;replace H:=ob H;obtain ⟨A4,A30,H⟩:=H;replace H:(if A4=true then (some ((l0.length:Int) == a1_0)) else (some false))=some r:=H;have A3:=Aside0.mk A30;clear A30
 by_cases c4:A4=true
 ·subst c4
  have H1:(some ((l0.length:Int) == a1_0))=some r:=by rw [if_pos rfl] at H;exact H
  clear H;have H:=H1;clear H1;obtain rfl:=os H
  go_enter Try.func58,Try.ntmps58
  go_wp2_with (first|((with_reducible refine gate_dst (N:=3) rfl ?_);(try (refine gate_guard (by rfl) ?_;dsimp only));refine bx (N:=3) (cs:=#[.int .i64 a1_0,.string a1_1]) (t:=26) ?_;intro A2 hg w5 hbox hb;have A1:=Aside0.mk (hbox);have A5:=Aside0.mk ((by rw [hg];exact (below_size (tb HB)):w.heap.size≤A2));have A6:=Aside0.mk ((by rw [hg];exact (below_size (tb HB)):w.heap.size≤A2));replace HB:=Aside0.mk (below_step (tb HB) hb);clear hb hbox hg;have hcz6__:=c2_ A1;have hfz6__:=f_ A1)|((with_reducible refine gate_callee (f:=45) rfl ?_);refine goesL_ (some 6) rfl rfl Try.func45 (by kernel_rfl) rfl #[.agg #[.int .i64 a1_0,.string a1_1]] rfl ml ?_;(with_reducible refine (impl_TableOk.calls k a1_0 a1_1 true _ A3.out).mono ?_);rintro e w7 ⟨rfl,hb⟩;refine ⟨_,rfl,?_⟩;replace A1:=Aside0.mk (blk_below (g:=A2) (o := .cells #[.int .i64 a1_0,.string a1_1] 26 (0,0)) (dr A1) hb);replace HB:=Aside0.mk (below_step (tb HB) hb);(try clear hb);(try clear hb2);(try clear hk);(try clear hi);have hcz8__:=c2_ A1;have hfz8__:=f_ A1));go_ret;exact ⟨er,tb HB⟩
 ·replace c4:=Bool.eq_false_iff.mpr c4;subst c4
  have H1:(some false)=some r:=by rw [if_neg (show ¬ (false=true) by decide)] at H;exact H
  clear H;have H:=H1;clear H1;obtain rfl:=os H
  go_enter Try.func58,Try.ntmps58
  go_wp2_with (first|((with_reducible refine gate_dst (N:=3) rfl ?_);(try (refine gate_guard (by rfl) ?_;dsimp only));refine bx (N:=3) (cs:=#[.int .i64 a1_0,.string a1_1]) (t:=26) ?_;intro A2 hg w9 hbox hb;have A1:=Aside0.mk (hbox);have A5:=Aside0.mk ((by rw [hg];exact (below_size (tb HB)):w.heap.size≤A2));have A6:=Aside0.mk ((by rw [hg];exact (below_size (tb HB)):w.heap.size≤A2));replace HB:=Aside0.mk (below_step (tb HB) hb);clear hb hbox hg;have hcz10__:=c2_ A1;have hfz10__:=f_ A1)|((with_reducible refine gate_callee (f:=45) rfl ?_);refine goesL_ (some 6) rfl rfl Try.func45 (by kernel_rfl) rfl #[.agg #[.int .i64 a1_0,.string a1_1]] rfl ml ?_;(with_reducible refine (impl_TableOk.calls k a1_0 a1_1 false _ A3.out).mono ?_);rintro e w11 ⟨rfl,hb⟩;refine ⟨_,rfl,?_⟩;replace A1:=Aside0.mk (blk_below (g:=A2) (o := .cells #[.int .i64 a1_0,.string a1_1] 26 (0,0)) (dr A1) hb);replace HB:=Aside0.mk (below_step (tb HB) hb);(try clear hb);(try clear hb2);(try clear hk);(try clear hi)));go_ret;exact ⟨er,tb HB⟩
def impl_Decide.f (k:Nat) (l0:List Bool) (a1_0:Int) (a1_1:ByteArray):Option (Int × Bool):=(impl_rowed.f k l0 a1_0 a1_1).bind fun A6=>(if A6=true then ((impl_decide.f k l0 a1_0 a1_1).bind fun A4=>(some (A4,true))) else (some (0,false)))
set_option maxHeartbeats 8000000 in
set_option maxRecDepth 100000 in
theorem impl_Decide.calls (k:Nat) (A0:Option Addr) (c0:Nat) (l0:List Bool) (a1_0:Int) (a1_1:ByteArray) (r1:Int) (r2:Bool) (w:World) (hr0:Kd.C Kd.bool w A0 l0.length l0) (hc0:l0.length≤c0) (h:impl_Decide.f k l0 a1_0 a1_1=some (r1,r2)) :
  Calls Try.prog 13 #[.slice A0 l0.length c0,.agg #[.int .i64 a1_0,.string a1_1]] w fun e w'=>e = .returned (.tuple #[.int .i64 r1,.bool r2])∧Below w.heap.size w w':=by
 have hu26:=Try.underlying26;have HR0:=Aside0.mk hr0;have HC0:=Aside0.mk hc0;clear hr0 hc0;have HB:=Aside0.mk (Below.refl w.heap.size w);have H:((impl_rowed.f k l0 a1_0 a1_1).bind fun A6=>(if A6=true then ((impl_decide.f k l0 a1_0 a1_1).bind fun A4=>(some (A4,true))) else (some (0,false))))=some (r1,r2):=h;clear h;replace H:=ob H;obtain ⟨A6,A30,H⟩:=H;replace H:(if A6=true then ((impl_decide.f k l0 a1_0 a1_1).bind fun A4=>(some (A4,true))) else (some (0,false)))=some (r1,r2):=H;have A3:=Aside0.mk A30;clear A30
 by_cases c4:A6=true
 ·subst c4
  have H1:((impl_decide.f k l0 a1_0 a1_1).bind fun A4=>(some (A4,true)))=some (r1,r2):=by rw [if_pos rfl] at H;exact H
  clear H;have H:=H1;clear H1;replace H:=ob H;obtain ⟨A4,A50,H⟩:=H;replace H:(some (A4,true))=some (r1,r2):=H;have A5:=Aside0.mk A50;clear A50;simp only [Option.some.injEq,Prod.mk.injEq] at H;obtain ⟨rfl,rfl⟩:=H
  go_enter Try.func13,Try.ntmps13
  go_wp2_with (first|((with_reducible refine gate_dst (N:=3) rfl ?_);refine bx (N:=3) (cs:=#[.int .i64 a1_0,.string a1_1]) (t:=26) ?_;intro A2 hg w6 hbox hb;have A1:=Aside0.mk (hbox);have A7:=Aside0.mk ((by rw [hg];exact (below_size (tb HB)):w.heap.size≤A2));have A8:=Aside0.mk ((by rw [hg];exact (below_size (tb HB)):w.heap.size≤A2));replace HB:=Aside0.mk (below_step (tb HB) hb);clear hb hbox hg;have hcz7__:=c2_ A1;have hfz7__:=f_ A1)|((with_reducible refine gate_callee (f:=58) rfl ?_);refine goesL_ (some 8) rfl rfl Try.func58 (by kernel_rfl) rfl #[.slice A0 l0.length c0,.agg #[.int .i64 a1_0,.string a1_1]] rfl ml ?_;(with_reducible refine (impl_rowed.calls k _ _ l0 a1_0 a1_1 true _ ?side1 ?side2 A3.out).mono ?_);(case side1=>exact cw (Kd.C_below HR0.out HB.out));(case side2=>exact HC0.out);rintro e w8 ⟨rfl,hb⟩;refine ⟨_,rfl,?_⟩;replace A1:=Aside0.mk (blk_below (g:=A2) (o := .cells #[.int .i64 a1_0,.string a1_1] 26 (0,0)) (dr A1) hb);replace HB:=Aside0.mk (below_step (tb HB) hb);(try clear hb);(try clear hb2);(try clear hk);(try clear hi);have hcz9__:=c2_ A1;have hfz9__:=f_ A1)|((with_reducible refine gate_callee (f:=59) rfl ?_);refine goesL_ (some 12) rfl rfl Try.func59 (by kernel_rfl) rfl #[.slice A0 l0.length c0,.agg #[.int .i64 a1_0,.string a1_1]] rfl ml ?_;(with_reducible refine (impl_decide.calls k _ _ l0 a1_0 a1_1 A4 _ ?side1 ?side2 A5.out).mono ?_);(case side1=>exact cw (Kd.C_below HR0.out HB.out));(case side2=>exact HC0.out);rintro e w10 ⟨rfl,hb⟩;refine ⟨_,rfl,?_⟩;replace A1:=Aside0.mk (blk_below (g:=A2) (o := .cells #[.int .i64 a1_0,.string a1_1] 26 (0,0)) (dr A1) hb);replace HB:=Aside0.mk (below_step (tb HB) hb);(try clear hb);(try clear hb2);(try clear hk);(try clear hi)));go_ret2;exact ⟨er,tb HB⟩
 ·replace c4:=Bool.eq_false_iff.mpr c4;subst c4
  have H1:(some (0,false))=some (r1,r2):=by rw [if_neg (show ¬ (false=true) by decide)] at H;exact H
  clear H;have H:=H1;clear H1;simp only [Option.some.injEq,Prod.mk.injEq] at H;obtain ⟨rfl,rfl⟩:=H
  go_enter Try.func13,Try.ntmps13
  go_wp2_with (first|((with_reducible refine gate_dst (N:=3) rfl ?_);refine bx (N:=3) (cs:=#[.int .i64 a1_0,.string a1_1]) (t:=26) ?_;intro A2 hg w11 hbox hb;have A1:=Aside0.mk (hbox);have A7:=Aside0.mk ((by rw [hg];exact (below_size (tb HB)):w.heap.size≤A2));have A8:=Aside0.mk ((by rw [hg];exact (below_size (tb HB)):w.heap.size≤A2));replace HB:=Aside0.mk (below_step (tb HB) hb);clear hb hbox hg;have hcz12__:=c2_ A1;have hfz12__:=f_ A1)|((with_reducible refine gate_callee (f:=58) rfl ?_);refine goesL_ (some 8) rfl rfl Try.func58 (by kernel_rfl) rfl #[.slice A0 l0.length c0,.agg #[.int .i64 a1_0,.string a1_1]] rfl ml ?_;(with_reducible refine (impl_rowed.calls k _ _ l0 a1_0 a1_1 false _ ?side1 ?side2 A3.out).mono ?_);(case side1=>exact cw (Kd.C_below HR0.out HB.out));(case side2=>exact HC0.out);rintro e w13 ⟨rfl,hb⟩;refine ⟨_,rfl,?_⟩;replace A1:=Aside0.mk (blk_below (g:=A2) (o := .cells #[.int .i64 a1_0,.string a1_1] 26 (0,0)) (dr A1) hb);replace HB:=Aside0.mk (below_step (tb HB) hb);(try clear hb);(try clear hb2);(try clear hk);(try clear hi)));go_ret2;exact ⟨er,tb HB⟩
def impl_isWidth.f (a0:Int):Option (Bool):=(impl_within.f a0 1 8).bind fun A0=>(some A0)
set_option maxHeartbeats 8000000 in
set_option maxRecDepth 100000 in
theorem impl_isWidth.calls (a0:Int) (r:Bool) (w:World) (h:impl_isWidth.f a0=some r) :
  Calls Try.prog 119 #[.int .i64 a0] w fun e w'=>e = .returned (.bool r)∧Drawn0 w w':=by
 have H:((impl_within.f a0 1 8).bind fun A0=>(some A0))=some r:=h;clear h;replace H:=ob H;obtain ⟨A0,A20,H⟩:=H;replace H:(some A0)=some r:=H;have A2:=Aside0.mk A20;clear A20;obtain rfl:=os H
 go_enter Try.func119,Try.ntmps119
 go_wp2_with (first|((with_reducible refine gate_callee (f:=61) rfl ?_);refine goesL_ (some 4) rfl rfl Try.func61 (by kernel_rfl) rfl #[.int .i64 a0,.int .i64 1,.int .i64 8] rfl ml ?_;(with_reducible refine (impl_within.calls a0 1 8 A0 _ A2.out).mono ?_);rintro e w' ⟨rfl,⟨nd,rfl⟩⟩;refine ⟨_,rfl,?_⟩));go_ret;exact ⟨e1,dn⟩
def impl_frontBits.l0:Nat→Int→List (S66)→Int→Int→Option (Int)
 | 0,_,_,_,_=>none
 | k + 1,x3,x6,x7,x8=>if x8 < x7 then (if 0≤x8 then (if x8 < (x6.length:Int) then ((impl_isWidth.f ((rd_T66 x6 x8).f2)).bind fun A6=>(if A6=true then (impl_frontBits.l0 k (mn (wrap64 (x3 + ((rd_T66 x6 x8).f2))) 13) x6 x7 (wrap64 (x8 + 1))) else (some (-1)))) else (none)) else (none)) else (if x3 > 12 then (some (-1)) else (some x3))
def impl_frontBits.f (k:Nat) (l0:List (S66)):Option (Int):=impl_frontBits.l0 k 0 l0 (l0.length:Int) 0
set_option maxHeartbeats 8000000 in
set_option maxRecDepth 100000 in
theorem impl_frontBits.calls (k:Nat) (A0:Option Addr) (c0:Nat) (l0:List (S66)) (r:Int) (w:World) (hr0:Kd.C k66 w A0 l0.length l0) (hc0:l0.length≤c0) (h:impl_frontBits.f k l0=some r) :
  Calls Try.prog 86 #[.slice A0 l0.length c0] w fun e w'=>e = .returned (.int .i64 r)∧Below w.heap.size w w':=by
 have hu66:=Try.underlying66;have HR0:=Aside0.mk hr0;have HC0:=Aside0.mk hc0;clear hr0 hc0;have HB:=Aside0.mk (Below.refl w.heap.size w);have H:(impl_frontBits.l0 k 0 l0 (l0.length:Int) 0)=some r:=h;clear h;have H':=Aside0.mk H;clear H
 go_enter Try.func86,Try.ntmps86
 go_wp2
 go_loopg [3,8] k (fun kq v3 v8 w'=>∃ (A2:Int) (A1:Int),v3 = .int .i64 A2∧v8 = .int .i64 A1∧Aside0 (impl_frontBits.l0 kq A2 l0 (l0.length:Int) A1=some r)∧Aside0 (kq≤k)∧Aside0 (Below w.heap.size w w'))
 case atStart=>exact ⟨(0),(0),(by first|rfl|(simp;done)|(simp [*];done)),(by first|rfl|(simp;done)|(simp [*];done)),H',⟨Nat.le_refl _⟩,⟨by exact tb HB⟩⟩
 case round =>
  clear H';obtain ⟨A2,A1,rfl,rfl,HA,HK1,HB⟩:=hrel
  cases gk with
  | zero=>exact absurd HA.out (by simp [impl_frontBits.l0])
  | succ k1 =>
   have H:=HA.out;clear HA;simp only [impl_frontBits.l0] at H
   by_cases c2:A1 < (l0.length:Int)
   ·rw [if_pos c2] at H;have c2b0:decide (A1 < (l0.length:Int))=true:=decide_eq_true c2;clear c2
    by_cases c3:0≤A1
    ·rw [if_pos c3] at H;have c3b0:decide (0≤A1)=true:=decide_eq_true c3;clear c3
     by_cases c4:A1 < (l0.length:Int)
     ·rw [if_pos c4] at H;have c4b0:decide (A1 < (l0.length:Int))=true:=decide_eq_true c4;clear c4;replace H:=ob H;obtain ⟨A6,A50,H⟩:=H;replace H:(if A6=true then (impl_frontBits.l0 k1 (mn (wrap64 (A2 + ((rd_T66 l0 A1).f2))) 13) l0 (l0.length:Int) (wrap64 (A1 + 1))) else (some (-1)))=some r:=H;have A5:=Aside0.mk A50;clear A50
      by_cases c6:A6=true
      ·subst c6
       have H1:(impl_frontBits.l0 k1 (mn (wrap64 (A2 + ((rd_T66 l0 A1).f2))) 13) l0 (l0.length:Int) (wrap64 (A1 + 1)))=some r:=by rw [if_pos rfl] at H;exact H
       clear H;have H:=H1;clear H1;obtain ⟨ji7,hji7⟩:∃ j_:Int,(mn (wrap64 (A2 + ((rd_T66 l0 A1).f2))) 13)=j_:=⟨_,rfl⟩
       replace H:(impl_frontBits.l0 k1 ji7 l0 (l0.length:Int) (wrap64 (A1 + 1)))=some r:=by first|(rw [hji7] at H;exact H)|(simp only [hji7] at H ⊢;exact H)
       (try rw [hji7] at A5)
       have hji7_:(if 13 < (wrap64 (A2 + ((rd_T66 l0 A1).f2))) then 13 else (wrap64 (A2 + ((rd_T66 l0 A1).f2))))=ji7:=hji7;have H':=Aside0.mk H;clear H;have p101:0≤(A1:Int):=od;have q101:A1 < (l0.length:Int):=od;obtain ⟨ad101,e101,hx101_0,hx101_1,hx101_2⟩:=at_T66 HR0.out A1 p101 q101;cases e101;replace hx101_0:=ct HB hx101_0;replace hx101_1:=ct HB hx101_1;replace hx101_2:=ct HB hx101_2;replace p101:=eq_true p101;replace q101:=eq_true q101;go_wp2_with (first|((with_reducible refine gate_dst (N:=5) rfl ?_);refine bx (N:=5) (cs:=#[.bool false,.int .i64 0,.int .i64 0]) (t:=66) ?_;intro A3 hg w8 hbox hb;have A4:=Aside0.mk (hbox);have A7:=Aside0.mk ((by rw [hg];exact (below_size (tb HB)):w.heap.size≤A3));have A8:=Aside0.mk ((by rw [hg];exact (below_size (tb HB)):w.heap.size≤A3));replace HB:=Aside0.mk (below_step (tb HB) hb);clear hb hbox hg;have hcz9__:=c3_ A4;have hfz9__:=f_ A4)|((with_reducible refine gate_callee (f:=119) rfl ?_);refine goesL_ (some 14) rfl rfl Try.func119 (by kernel_rfl) rfl #[.int .i64 ((rd_T66 l0 A1).f2)] rfl ml ?_;(with_reducible refine (impl_isWidth.calls ((rd_T66 l0 A1).f2) true _ A5.out).mono ?_);rintro e w' ⟨rfl,⟨nd,rfl⟩⟩;refine ⟨_,rfl,?_⟩));go_roundg k1
       case measure=>have:=HK1.out;omega
       case rel=>exact ⟨(ji7),(wrap64 (A1 + 1)),(by first|rfl|(simp;done)|(simp only [← hji7] <;> (first|rfl|simp))|(simp [*];done)),(by first|rfl|(simp;done)|(simp [*];done)),(by first|exact H'|(rw [hji7];exact H')),⟨by have:=HK1.out;omega⟩,⟨by exact tb HB⟩⟩
      ·replace c6:=Bool.eq_false_iff.mpr c6;subst c6
       have H1:(some (-1))=some r:=by rw [if_neg (show ¬ (false=true) by decide)] at H;exact H
       clear H;have H:=H1;clear H1;obtain rfl:=os H;have p101:0≤(A1:Int):=od;have q101:A1 < (l0.length:Int):=od;obtain ⟨ad101,e101,hx101_0,hx101_1,hx101_2⟩:=at_T66 HR0.out A1 p101 q101;cases e101;replace hx101_0:=ct HB hx101_0;replace hx101_1:=ct HB hx101_1;replace hx101_2:=ct HB hx101_2;replace p101:=eq_true p101;replace q101:=eq_true q101;go_wp2_with (first|((with_reducible refine gate_dst (N:=5) rfl ?_);refine bx (N:=5) (cs:=#[.bool false,.int .i64 0,.int .i64 0]) (t:=66) ?_;intro A3 hg w10 hbox hb;have A4:=Aside0.mk (hbox);have A7:=Aside0.mk ((by rw [hg];exact (below_size (tb HB)):w.heap.size≤A3));have A8:=Aside0.mk ((by rw [hg];exact (below_size (tb HB)):w.heap.size≤A3));replace HB:=Aside0.mk (below_step (tb HB) hb);clear hb hbox hg;have hcz11__:=c3_ A4;have hfz11__:=f_ A4)|((with_reducible refine gate_callee (f:=119) rfl ?_);refine goesL_ (some 14) rfl rfl Try.func119 (by kernel_rfl) rfl #[.int .i64 ((rd_T66 l0 A1).f2)] rfl ml ?_;(with_reducible refine (impl_isWidth.calls ((rd_T66 l0 A1).f2) false _ A5.out).mono ?_);rintro e w' ⟨rfl,⟨nd,rfl⟩⟩;refine ⟨_,rfl,?_⟩));go_ret;exact ⟨er,tb HB⟩
     ·rw [if_neg c4] at H;exact absurd H (by simp)
    ·rw [if_neg c3] at H;exact absurd H (by simp)
   ·rw [if_neg c2] at H;have c2b0:decide (A1 < (l0.length:Int))=false:=decide_eq_false c2;clear c2
    by_cases c12:A2 > 12
    ·rw [if_pos c12] at H;have c12b0:decide (12 < A2)=true:=decide_eq_true c12;clear c12;obtain rfl:=os H;go_wp2;go_ret;exact ⟨er,tb HB⟩
    ·rw [if_neg c12] at H;have c12b0:decide (12 < A2)=false:=decide_eq_false c12;clear c12;obtain rfl:=os H;go_wp2;go_ret;exact ⟨er,tb HB⟩
mutual
def impl_Rows.l0:Nat→List Bool→List (S66)→Int→Int→Option (List Bool)
 | 0,_,_,_,_=>none
 | k + 1,x3,x11,x12,x13=>if x13 < x12 then (if 0≤x13 then (if x13 < (x11.length:Int) then (impl_Rows.l1 k x3 x11 x12 x13 ((rd_T66 x11 x13).f2) 0 ((rd_T66 x11 x13).f0) ((rd_T66 x11 x13).f1) ((rd_T66 x11 x13).f2)) else (none)) else (none)) else (some x3)
def impl_Rows.l1:Nat→List Bool→List (S66)→Int→Int→Int→Int→Bool→Int→Int→Option (List Bool)
 | 0,_,_,_,_,_,_,_,_,_=>none
 | k + 1,x3,x11,x12,x13,x18,x19,x107000,x107001,x107002=>if x19 < x18 then (if x3.length < 140737488355328 then (impl_Rows.l1 k (x3 ++ [x107000]) x11 x12 x13 x18 (wrap64 (x19 + 1)) x107000 x107001 x107002) else (none)) else (impl_Rows.l0 k x3 x11 x12 (wrap64 (x13 + 1)))
end
def impl_Rows.f (k:Nat) (l0:List (S66)):Option (List Bool):=(some (([]:List Bool):List Bool)).bind fun y101=>((impl_frontBits.f k l0).bind fun A5=>(if A5 < 0 then (some y101) else (impl_Rows.l0 k y101 l0 (l0.length:Int) 0)))
set_option maxHeartbeats 8000000 in
set_option maxRecDepth 100000 in
theorem impl_Rows.calls (k:Nat) (A0:Option Addr) (c0:Nat) (l0:List (S66)) (r:List Bool) (w:World) (hr0:Kd.C k66 w A0 l0.length l0) (hc0:l0.length≤c0) (h:impl_Rows.f k l0=some r) :
  Calls Try.prog 94 #[.slice A0 l0.length c0] w fun e w'=>∃ v0_:Value,e = .returned (v0_)∧Kd.R Kd.bool 4 w' w.heap.size (fun _=>True) v0_ r∧Below w.heap.size w w':=by
 have hu66:=Try.underlying66;have HR0:=Aside0.mk hr0;have HC0:=Aside0.mk hc0;clear hr0 hc0;have HB:=Aside0.mk (Below.refl w.heap.size w);have H:((some (([]:List Bool):List Bool)).bind fun y101=>((impl_frontBits.f k l0).bind fun A5=>(if A5 < 0 then (some y101) else (impl_Rows.l0 k y101 l0 (l0.length:Int) 0))))=some r:=h;clear h;obtain ⟨y101,hy101⟩:∃ y_:List Bool,y_=(([]:List Bool)):=⟨_,rfl⟩
 replace H:((impl_frontBits.f k l0).bind fun A5=>(if A5 < 0 then (some y101) else (impl_Rows.l0 k y101 l0 (l0.length:Int) 0)))=some r:=by first|(rw [hy101];with_reducible exact H)|(have H2_:=(Option.bind_some _ _).symm.trans H;rw [hy101];with_reducible exact H2_)|(have H2_:=(Option.bind_some _ _).symm.trans H;with_reducible exact H2_)|with_reducible exact H|(rw [hy101];exact H)|exact H
 have Ny101:=Aside0.mk hy101;clear hy101;replace H:=ob H;obtain ⟨A5,A20,H⟩:=H;replace H:(if A5 < 0 then (some y101) else (impl_Rows.l0 k y101 l0 (l0.length:Int) 0))=some r:=H;have A2:=Aside0.mk A20;clear A20
 by_cases c3:A5 < 0
 ·rw [if_pos c3] at H;have c3b0:decide (A5 < 0)=true:=decide_eq_true c3;clear c3;obtain rfl:=os H
  go_enter Try.func94,Try.ntmps94
  go_wp2_with (first|((with_reducible refine gate_dst (N:=6) rfl ?_);refine Kd.R_lit Kd.bool _ 4 ?hg (N:=6) ?hd (xs:=([]:List Bool)) (inner:=[]) (ok:=fun _=>True) (okp:=fun _=>True) ?hr ?hp (fun _ hk=>hk) trivial (Below.refl _ _) (Nat.le_refl _) (by simp) ?_;(case hd=>rfl);(case hg=>rfl);(case hr=>first|(go_simp;done)|(go_simp;rfl));(case hp=>exact (Reps.none _ _));intro v102 w4 ho5 hb hg_ hnew_;clear hg_ hnew_;(first|rw [← Ny101.out] at ho5|(simp only [Int.reduceToNat] at ho5;rw [← Ny101.out] at ho5));have A6:=Aside0.mk (Kd.R_lower ho5 (below_size (tb HB)));replace HB:=Aside0.mk (below_step (tb HB) hb);clear hb ho5)|((with_reducible refine gate_callee (f:=86) rfl ?_);refine goesL_ (some 8) rfl rfl Try.func86 (by kernel_rfl) rfl #[.slice A0 l0.length c0] rfl ml ?_;(with_reducible refine (impl_frontBits.calls k _ _ l0 A5 _ ?side1 ?side2 A2.out).mono ?_);(case side1=>exact cw (Kd.C_below HR0.out HB.out));(case side2=>exact HC0.out);rintro e w6 ⟨rfl,hb⟩;refine ⟨_,rfl,?_⟩;replace A6:=Aside0.mk (Kd.R_below (ra A6) hb);replace HB:=Aside0.mk (below_step (tb HB) hb);(try clear hb);(try clear hb2);(try clear hk);(try clear hi)));go_ret;exact ⟨_,er,ra A6,tb HB⟩
 ·rw [if_neg c3] at H;have c3b0:decide (A5 < 0)=false:=decide_eq_false c3;clear c3;have H':=Aside0.mk H;clear H
  go_enter Try.func94,Try.ntmps94
  go_wp2_with (first|((with_reducible refine gate_dst (N:=6) rfl ?_);refine Kd.R_lit Kd.bool _ 4 ?hg (N:=6) ?hd (xs:=([]:List Bool)) (inner:=[]) (ok:=fun _=>True) (okp:=fun _=>True) ?hr ?hp (fun _ hk=>hk) trivial (Below.refl _ _) (Nat.le_refl _) (by simp) ?_;(case hd=>rfl);(case hg=>rfl);(case hr=>first|(go_simp;done)|(go_simp;rfl));(case hp=>exact (Reps.none _ _));intro v102 w7 ho8 hb hg_ hnew_;clear hg_ hnew_;(first|rw [← Ny101.out] at ho8|(simp only [Int.reduceToNat] at ho8;rw [← Ny101.out] at ho8));have A6:=Aside0.mk (Kd.R_lower ho8 (below_size (tb HB)));replace HB:=Aside0.mk (below_step (tb HB) hb);clear hb ho8)|((with_reducible refine gate_callee (f:=86) rfl ?_);refine goesL_ (some 8) rfl rfl Try.func86 (by kernel_rfl) rfl #[.slice A0 l0.length c0] rfl ml ?_;(with_reducible refine (impl_frontBits.calls k _ _ l0 A5 _ ?side1 ?side2 A2.out).mono ?_);(case side1=>exact cw (Kd.C_below HR0.out HB.out));(case side2=>exact HC0.out);rintro e w9 ⟨rfl,hb⟩;refine ⟨_,rfl,?_⟩;replace A6:=Aside0.mk (Kd.R_below (ra A6) hb);replace HB:=Aside0.mk (below_step (tb HB) hb);(try clear hb);(try clear hb2);(try clear hk);(try clear hi)))
  go_loopg [3,13] k (fun kq v3 v13 w'=>∃ (Aa:List Bool) (A1:Int),v13 = .int .i64 A1∧Aside0 (impl_Rows.l0 kq Aa l0 (l0.length:Int) A1=some r)∧Aside0 (kq≤k)∧Aside0 (Kd.R Kd.bool 4 w' w.heap.size (fun _=>True) v3 Aa)∧Aside0 (Below w.heap.size w w'))
  case atStart=>exact ⟨(y101),(0),(by first|rfl|(simp;done)|(simp [*];done)),H',⟨Nat.le_refl _⟩,⟨ra A6⟩,⟨by exact tb HB⟩⟩
  case round =>
   clear H';(try clear p2);(try clear c3);(try clear c3b0);(try clear c8);(try clear c9);obtain ⟨Aa,A1,rfl,HA,HK1,A7,HB⟩:=hrel
   cases gk with
   | zero=>exact absurd HA.out (by simp [impl_Rows.l0])
   | succ k1 =>
    have H:=HA.out;clear HA;simp only [impl_Rows.l0] at H
    by_cases c10:A1 < (l0.length:Int)
    ·rw [if_pos c10] at H;have c10b0:decide (A1 < (l0.length:Int))=true:=decide_eq_true c10;clear c10
     by_cases c11:0≤A1
     ·rw [if_pos c11] at H;have c11b0:decide (0≤A1)=true:=decide_eq_true c11;clear c11
      by_cases c12:A1 < (l0.length:Int)
      ·rw [if_pos c12] at H;have c12b0:decide (A1 < (l0.length:Int))=true:=decide_eq_true c12;clear c12;have H':=Aside0.mk H;clear H;have p105:0≤(A1:Int):=od;have q105:A1 < (l0.length:Int):=od;obtain ⟨ad105,e105,hx105_0,hx105_1,hx105_2⟩:=at_T66 HR0.out A1 p105 q105;cases e105;replace hx105_0:=ct HB hx105_0;replace hx105_1:=ct HB hx105_1;replace hx105_2:=ct HB hx105_2;replace p105:=eq_true p105;replace q105:=eq_true q105;go_wp2_with (first|((with_reducible refine gate_dst (N:=5) rfl ?_);refine bx (N:=5) (cs:=#[.bool false,.int .i64 0,.int .i64 0]) (t:=66) ?_;intro A9 hg w13 hbox hb;replace A7:=Aside0.mk (Kd.R_below (ra A7) hb);have A3:=Aside0.mk (hbox);have GW106:=Aside0.mk ((by rw [hg];exact (below_size (tb HB)):w.heap.size≤A9));have GE106:=Aside0.mk ((by rw [hg];exact (below_size (tb HB)):w.heap.size≤A9));replace HB:=Aside0.mk (below_step (tb HB) hb);clear hb hbox hg;have hcz14__:=c3_ A3;have hfz14__:=f_ A3))
       go_loopg [3,19] k1 (fun kq v3 v19 w'=>∃ (A8:List Bool) (A4:Int),v19 = .int .i64 A4∧Aside0 (impl_Rows.l1 kq A8 l0 (l0.length:Int) A1 ((rd_T66 l0 A1).f2) A4 ((rd_T66 l0 A1).f0) ((rd_T66 l0 A1).f1) ((rd_T66 l0 A1).f2)=some r)∧Aside0 (kq≤k1)∧Aside0 (Kd.R Kd.bool 4 w' w.heap.size (fun _=>True) v3 A8)∧Aside0 (w'.heap[A9]? = some (.cells #[.bool ((rd_T66 l0 A1).f0),.int .i64 ((rd_T66 l0 A1).f1),.int .i64 ((rd_T66 l0 A1).f2)] 66 (0,0)))∧Aside0 (Below w.heap.size w w'))
       case atStart=>exact ⟨(Aa),(0),(by first|rfl|(simp;done)|(simp [*];done)),H',⟨Nat.le_refl _⟩,⟨by exact rfs (Kd.R_types A7.out A3.out (by decide))⟩,⟨by (with_reducible repeat (first|refine blk_drewN ?_ _|refine blk_drew ?_|refine blk_alloc ?_ _));refine blk_put (cs:=#[.bool ((rd_T66 l0 A1).f0),.int .i64 ((rd_T66 l0 A1).f1),.int .i64 0]) ?_ 2 _ rfl;(with_reducible repeat (first|refine blk_drewN ?_ _|refine blk_drew ?_|refine blk_alloc ?_ _));refine blk_put (cs:=#[.bool ((rd_T66 l0 A1).f0),.int .i64 0,.int .i64 0]) ?_ 1 _ rfl;(with_reducible repeat (first|refine blk_drewN ?_ _|refine blk_drew ?_|refine blk_alloc ?_ _));refine blk_put (cs:=#[.bool false,.int .i64 0,.int .i64 0]) ?_ 0 _ rfl;(with_reducible repeat (first|refine blk_drewN ?_ _|refine blk_drew ?_|refine blk_alloc ?_ _));exact A3.out⟩,⟨by exact tb HB⟩⟩
       case round =>
        clear H';(try clear c1);(try clear p1);(try clear q1);(try clear hx1);(try clear p2);(try clear c3);(try clear c3b0);(try clear c8);(try clear c9);(try clear c10);(try clear c10b0);(try clear p10);(try clear q10);(try clear hx10);(try clear c11);(try clear c11b0);(try clear c12);(try clear c12b0);(try clear hcz14__);(try clear hfz14__);(try clear hx105_0);(try clear hx105_1);(try clear hx105_2);(try clear p105);(try clear p2);(try clear q105);obtain ⟨A8,A4,rfl,HA,HK2,A7,A3,HB⟩:=hrel
        cases gk with
        | zero=>exact absurd HA.out (by simp [impl_Rows.l1])
        | succ k2 =>
         have H:=HA.out;clear HA;simp only [impl_Rows.l1] at H
         by_cases c15:A4 < ((rd_T66 l0 A1).f2)
         ·rw [if_pos c15] at H;have c15b0:decide (A4 < ((rd_T66 l0 A1).f2))=true:=decide_eq_true c15;clear c15
          by_cases c16:A8.length < 140737488355328
          ·rw [if_pos c16] at H;have LMc16:=Aside0.mk c16;clear c16;obtain ⟨y107,hy107⟩:∃ y_:List Bool,y_=(A8 ++ [((rd_T66 l0 A1).f0)]):=⟨_,rfl⟩
           replace H:(impl_Rows.l1 k2 y107 l0 (l0.length:Int) A1 ((rd_T66 l0 A1).f2) (wrap64 (A4 + 1)) ((rd_T66 l0 A1).f0) ((rd_T66 l0 A1).f1) ((rd_T66 l0 A1).f2))=some r:=by first|(rw [hy107];with_reducible exact H)|(have H2_:=(Option.bind_some _ _).symm.trans H;rw [hy107];with_reducible exact H2_)|(have H2_:=(Option.bind_some _ _).symm.trans H;with_reducible exact H2_)|with_reducible exact H|(rw [hy107];exact H)|exact H
           have Ny107:=Aside0.mk hy107;clear hy107;have H':=Aside0.mk H;clear H;have hcz17__:=c3_ A3;have hfz17__:=f_ A3;go_wp2_with (first|((with_reducible refine gate_builtin (b := .append) (xs:=#[.tmp 21,.tmp 24]) rfl ?_);at_builtin;refine Kd.R_append Kd.bool (w0:=w) w.heap.size rfl (.tmp 21) (.tmp 24) 24 4 (.bool false) 1 rfl Try.underlying24 info4 rfl (by decide) (by omega) u3 A8 ((rd_T66 l0 A1).f0) [.bool ((rd_T66 l0 A1).f0)] (fun _=>True) (fun _=>False) rfl rfl ?aP (fun _ hk=>hk.elim) ?aF ?aO ?aB ?aS ?aL ?_;(case aP=>exact rfl);(case aB=>exact (tb HB));(case aF=>exact (fun _ _=>trivial));(case aO=>exact (ra A7));(case aS=>exact (below_size (tb HB)));(case aL=>have:=LMc16.out;omega);intro v108 w18 ho hb hg hat;rw [← Ny107.out] at ho;replace A3:=Aside0.mk (blk_grown (g:=A9) (o := .cells #[.bool ((rd_T66 l0 A1).f0),.int .i64 ((rd_T66 l0 A1).f1),.int .i64 ((rd_T66 l0 A1).f2)] 66 (0,0)) (dr A3) hg (Kd.R_ne A7.out A3.out (by decide)));replace HB:=Aside0.mk (hb);have Ab:=Aside0.mk (ho);clear A7;clear ho hb hg hat));go_roundg k2
           case measure=>have:=HK1.out;have:=HK2.out;omega
           case rel=>exact ⟨(y107),(wrap64 (A4 + 1)),(by first|rfl|(simp;done)|(simp [*];done)),H',⟨by have:=HK1.out;have:=HK2.out;omega⟩,⟨ra Ab⟩,⟨dr A3⟩,⟨by exact tb HB⟩⟩
          ·rw [if_neg c16] at H;exact absurd H (by simp)
         ·rw [if_neg c15] at H;have c15b0:decide (A4 < ((rd_T66 l0 A1).f2))=false:=decide_eq_false c15;clear c15;have H':=Aside0.mk H;clear H;go_wp2;go_roundg k2
          case measure=>have:=HK1.out;have:=HK2.out;omega
          case rel=>exact ⟨(A8),(wrap64 (A1 + 1)),(by first|rfl|(simp;done)|(simp [*];done)),H',⟨by have:=HK1.out;have:=HK2.out;omega⟩,⟨ra A7⟩,⟨by exact tb HB⟩⟩
      ·rw [if_neg c12] at H;exact absurd H (by simp)
     ·rw [if_neg c11] at H;exact absurd H (by simp)
    ·rw [if_neg c10] at H;have c10b0:decide (A1 < (l0.length:Int))=false:=decide_eq_false c10;clear c10;obtain rfl:=os H;go_wp2;go_ret;exact ⟨_,er,ra A7,tb HB⟩
def impl_WordOk.f (a0:Int) (a1:Int):Option (Bool):=(impl_isWidth.f a0).bind fun A1=>(if A1=true then (if 0≤(IntKind.u64.wrap (a0)) then ((impl_within.f a1 0 (wrap64 ((shl .i64 1 (IntKind.u64.wrap (a0))) - 1))).bind fun A0=>(some A0)) else (none)) else (some false))
set_option maxHeartbeats 8000000 in
set_option maxRecDepth 100000 in
theorem impl_WordOk.calls (a0:Int) (a1:Int) (r:Bool) (w:World) (h:impl_WordOk.f a0 a1=some r) :
  Calls Try.prog 165 #[.int .i64 a0,.int .i64 a1] w fun e w'=>e = .returned (.bool r)∧Drawn0 w w':=by
 have H:((impl_isWidth.f a0).bind fun A1=>(if A1=true then (if 0≤(IntKind.u64.wrap (a0)) then ((impl_within.f a1 0 (wrap64 ((shl .i64 1 (IntKind.u64.wrap (a0))) - 1))).bind fun A0=>(some A0)) else (none)) else (some false)))=some r:=h;clear h;replace H:=ob H;obtain ⟨A1,A30,H⟩:=H;replace H:(if A1=true then (if 0≤(IntKind.u64.wrap (a0)) then ((impl_within.f a1 0 (wrap64 ((shl .i64 1 (IntKind.u64.wrap (a0))) - 1))).bind fun A0=>(some A0)) else (none)) else (some false))=some r:=H;have A3:=Aside0.mk A30;clear A30
 by_cases c4:A1=true
 ·subst c4
  have H1:(if 0≤(IntKind.u64.wrap (a0)) then ((impl_within.f a1 0 (wrap64 ((shl .i64 1 (IntKind.u64.wrap (a0))) - 1))).bind fun A0=>(some A0)) else (none))=some r:=by rw [if_pos rfl] at H;exact H
  clear H;have H:=H1;clear H1;obtain ⟨ji5,hji5⟩:∃ j_:Int,(IntKind.u64.wrap (a0))=j_:=⟨_,rfl⟩
  replace H:(if 0≤(ji5) then ((impl_within.f a1 0 (wrap64 ((shl .i64 1 (ji5)) - 1))).bind fun A0=>(some A0)) else (none))=some r:=by first|(rw [hji5] at H;exact H)|(simp only [hji5] at H ⊢;exact H)
  (try rw [hji5] at A3)
  by_cases c6:0≤(ji5)
  ·rw [if_pos c6] at H;have c6b0:=eq_true c6;have c6b1:decide (0≤(ji5))=true:=decide_eq_true c6;clear c6;obtain ⟨ji7,hji7⟩:∃ j_:Int,(shl .i64 1 (ji5))=j_:=⟨_,rfl⟩
   replace H:((impl_within.f a1 0 (wrap64 ((ji7) - 1))).bind fun A0=>(some A0))=some r:=by first|(rw [hji7] at H;exact H)|(simp only [hji7] at H ⊢;exact H)
   (try rw [hji7] at A3)
   have hji7_:(IntKind.i64.wrap (1 * 2 ^ min (ji5).toNat 64))=ji7:=hji7;have hji7z:(ji5)≤64→(IntKind.i64.wrap (1 * 2 ^ (ji5).toNat))=ji7:=shl_small hji7
   have hji7u:(IntKind.i64.wrap (2 ^ min (ji5).toNat 64))=ji7:=by have h_:=hji7_;rw [Int.one_mul] at h_;exact h_
   have hji7v:(ji5)≤64→(IntKind.i64.wrap (2 ^ (ji5).toNat))=ji7:=fun hle_=>by have h_:=hji7z hle_;rw [Int.one_mul] at h_;exact h_
   have hji7y:(wrap64 (1 * 2 ^ min (ji5).toNat 64))=ji7:=(i64_w _).symm.trans hji7_
   have hji7x:(ji5)≤64→(wrap64 (1 * 2 ^ (ji5).toNat))=ji7:=fun h_=>(i64_w _).symm.trans (hji7z h_)
   replace H:=ob H;obtain ⟨A0,A80,H⟩:=H;replace H:(some A0)=some r:=H;have A8:=Aside0.mk A80;clear A80;obtain rfl:=os H
   go_enter Try.func165,Try.ntmps165
   go_wp2_with (first|((with_reducible refine gate_callee (f:=119) rfl ?_);refine goesL_ (some 6) rfl rfl Try.func119 (by kernel_rfl) rfl #[.int .i64 a0] rfl ml ?_;(with_reducible refine (impl_isWidth.calls a0 true _ A3.out).mono ?_);rintro e w' ⟨rfl,⟨nd,rfl⟩⟩;refine ⟨_,rfl,?_⟩)|(go_at_call 61;(try simp only [i64_w,i32_w]);(with_reducible refine (impl_within.calls a1 0 (wrap64 ((ji7) - 1)) A0 _ A8.out).mono ?_);rintro e w' ⟨rfl,⟨nd,rfl⟩⟩));go_ret;exact ⟨by first|rfl|(simp;done)|(simp only [← hji5,← hji7] <;> (first|rfl|simp))|(simp [*];done),by repeat (first|exact Drawn0.refl _|apply Drawn0.step)⟩
  ·rw [if_neg c6] at H;exact absurd H (by simp)
 ·replace c4:=Bool.eq_false_iff.mpr c4;subst c4
  have H1:(some false)=some r:=by rw [if_neg (show ¬ (false=true) by decide)] at H;exact H
  clear H;have H:=H1;clear H1;obtain rfl:=os H
  go_enter Try.func165,Try.ntmps165
  go_wp2_with (first|((with_reducible refine gate_callee (f:=119) rfl ?_);refine goesL_ (some 6) rfl rfl Try.func119 (by kernel_rfl) rfl #[.int .i64 a0] rfl ml ?_;(with_reducible refine (impl_isWidth.calls a0 false _ A3.out).mono ?_);rintro e w' ⟨rfl,⟨nd,rfl⟩⟩;refine ⟨_,rfl,?_⟩));go_ret;exact ⟨e1,dn⟩
def impl_Flip.f (a0:Int) (a1:Int):Option (Int):=(impl_WordOk.f a0 a1).bind fun A0=>(if A0=true then (if 0≤(IntKind.u64.wrap (a0)) then (some (wrap64 ((wrap64 ((shl .i64 1 (IntKind.u64.wrap (a0))) - 1)) - a1))) else (none)) else (some 0))
set_option maxHeartbeats 8000000 in
set_option maxRecDepth 100000 in
theorem impl_Flip.calls (a0:Int) (a1:Int) (r:Int) (w:World) (h:impl_Flip.f a0 a1=some r) :
  Calls Try.prog 140 #[.int .i64 a0,.int .i64 a1] w fun e w'=>e = .returned (.int .i64 r)∧Drawn0 w w':=by
 have H:((impl_WordOk.f a0 a1).bind fun A0=>(if A0=true then (if 0≤(IntKind.u64.wrap (a0)) then (some (wrap64 ((wrap64 ((shl .i64 1 (IntKind.u64.wrap (a0))) - 1)) - a1))) else (none)) else (some 0)))=some r:=h;clear h;replace H:=ob H;obtain ⟨A0,A30,H⟩:=H;replace H:(if A0=true then (if 0≤(IntKind.u64.wrap (a0)) then (some (wrap64 ((wrap64 ((shl .i64 1 (IntKind.u64.wrap (a0))) - 1)) - a1))) else (none)) else (some 0))=some r:=H;have A3:=Aside0.mk A30;clear A30
 by_cases c4:A0=true
 ·subst c4
  have H1:(if 0≤(IntKind.u64.wrap (a0)) then (some (wrap64 ((wrap64 ((shl .i64 1 (IntKind.u64.wrap (a0))) - 1)) - a1))) else (none))=some r:=by rw [if_pos rfl] at H;exact H
  clear H;have H:=H1;clear H1;obtain ⟨ji5,hji5⟩:∃ j_:Int,(IntKind.u64.wrap (a0))=j_:=⟨_,rfl⟩
  replace H:(if 0≤(ji5) then (some (wrap64 ((wrap64 ((shl .i64 1 (ji5)) - 1)) - a1))) else (none))=some r:=by first|(rw [hji5] at H;exact H)|(simp only [hji5] at H ⊢;exact H)
  (try rw [hji5] at A3)
  by_cases c6:0≤(ji5)
  ·rw [if_pos c6] at H;have c6b0:=eq_true c6;have c6b1:decide (0≤(ji5))=true:=decide_eq_true c6;clear c6;obtain ⟨ji7,hji7⟩:∃ j_:Int,(shl .i64 1 (ji5))=j_:=⟨_,rfl⟩
   replace H:(some (wrap64 ((wrap64 ((ji7) - 1)) - a1)))=some r:=by first|(rw [hji7] at H;exact H)|(simp only [hji7] at H ⊢;exact H)
   (try rw [hji7] at A3)
   have hji7_:(IntKind.i64.wrap (1 * 2 ^ min (ji5).toNat 64))=ji7:=hji7;have hji7z:(ji5)≤64→(IntKind.i64.wrap (1 * 2 ^ (ji5).toNat))=ji7:=shl_small hji7
   have hji7u:(IntKind.i64.wrap (2 ^ min (ji5).toNat 64))=ji7:=by have h_:=hji7_;rw [Int.one_mul] at h_;exact h_
   have hji7v:(ji5)≤64→(IntKind.i64.wrap (2 ^ (ji5).toNat))=ji7:=fun hle_=>by have h_:=hji7z hle_;rw [Int.one_mul] at h_;exact h_
   have hji7y:(wrap64 (1 * 2 ^ min (ji5).toNat 64))=ji7:=(i64_w _).symm.trans hji7_
   have hji7x:(ji5)≤64→(wrap64 (1 * 2 ^ (ji5).toNat))=ji7:=fun h_=>(i64_w _).symm.trans (hji7z h_)
   obtain rfl:=os H
   go_enter Try.func140,Try.ntmps140
   go_wp2_with (first|((with_reducible refine gate_callee (f:=165) rfl ?_);refine goesL_ (some 7) rfl rfl Try.func165 (by kernel_rfl) rfl #[.int .i64 a0,.int .i64 a1] rfl ml ?_;(with_reducible refine (impl_WordOk.calls a0 a1 true _ A3.out).mono ?_);rintro e w' ⟨rfl,⟨nd,rfl⟩⟩;refine ⟨_,rfl,?_⟩));go_ret;exact ⟨by first|rfl|(simp;done)|(simp only [← hji5,← hji7] <;> (first|rfl|simp))|(simp [*];done),by repeat (first|exact Drawn0.refl _|apply Drawn0.step)⟩
  ·rw [if_neg c6] at H;exact absurd H (by simp)
 ·replace c4:=Bool.eq_false_iff.mpr c4;subst c4
  have H1:(some 0)=some r:=by rw [if_neg (show ¬ (false=true) by decide)] at H;exact H
  clear H;have H:=H1;clear H1;obtain rfl:=os H
  go_enter Try.func140,Try.ntmps140
  go_wp2_with (first|((with_reducible refine gate_callee (f:=165) rfl ?_);refine goesL_ (some 7) rfl rfl Try.func165 (by kernel_rfl) rfl #[.int .i64 a0,.int .i64 a1] rfl ml ?_;(with_reducible refine (impl_WordOk.calls a0 a1 false _ A3.out).mono ?_);rintro e w' ⟨rfl,⟨nd,rfl⟩⟩;refine ⟨_,rfl,?_⟩));go_ret;exact ⟨e1,dn⟩
def impl_two.f (a0:Int) (a1:Int) (a2:Int):Option (Bool):=(impl_WordOk.f a0 a1).bind fun A1=>(if A1=true then ((impl_WordOk.f a0 a2).bind fun A0=>(some A0)) else (some false))
set_option maxHeartbeats 8000000 in
set_option maxRecDepth 100000 in
theorem impl_two.calls (a0:Int) (a1:Int) (a2:Int) (r:Bool) (w:World) (h:impl_two.f a0 a1 a2=some r) :
  Calls Try.prog 173 #[.int .i64 a0,.int .i64 a1,.int .i64 a2] w fun e w'=>e = .returned (.bool r)∧Drawn0 w w':=by
 have H:((impl_WordOk.f a0 a1).bind fun A1=>(if A1=true then ((impl_WordOk.f a0 a2).bind fun A0=>(some A0)) else (some false)))=some r:=h;clear h;replace H:=ob H;obtain ⟨A1,A40,H⟩:=H;replace H:(if A1=true then ((impl_WordOk.f a0 a2).bind fun A0=>(some A0)) else (some false))=some r:=H;have A4:=Aside0.mk A40;clear A40
 by_cases c5:A1=true
 ·subst c5
  have H1:((impl_WordOk.f a0 a2).bind fun A0=>(some A0))=some r:=by rw [if_pos rfl] at H;exact H
  clear H;have H:=H1;clear H1;replace H:=ob H;obtain ⟨A0,A60,H⟩:=H;replace H:(some A0)=some r:=H;have A6:=Aside0.mk A60;clear A60;obtain rfl:=os H
  go_enter Try.func173,Try.ntmps173
  go_wp2_with (first|((with_reducible refine gate_callee (f:=165) rfl ?_);refine goesL_ (some 9) rfl rfl Try.func165 (by kernel_rfl) rfl #[.int .i64 a0,.int .i64 a1] rfl ml ?_;(with_reducible refine (impl_WordOk.calls a0 a1 true _ A4.out).mono ?_);rintro e w' ⟨rfl,⟨nd,rfl⟩⟩;refine ⟨_,rfl,?_⟩)|(go_at_call 165;(try simp only [i64_w,i32_w]);(with_reducible refine (impl_WordOk.calls a0 a2 A0 _ A6.out).mono ?_);rintro e w' ⟨rfl,⟨nd,rfl⟩⟩));go_ret;exact ⟨e1,dn⟩
 ·replace c5:=Bool.eq_false_iff.mpr c5;subst c5
  have H1:(some false)=some r:=by rw [if_neg (show ¬ (false=true) by decide)] at H;exact H
  clear H;have H:=H1;clear H1;obtain rfl:=os H
  go_enter Try.func173,Try.ntmps173
  go_wp2_with (first|((with_reducible refine gate_callee (f:=165) rfl ?_);refine goesL_ (some 9) rfl rfl Try.func165 (by kernel_rfl) rfl #[.int .i64 a0,.int .i64 a1] rfl ml ?_;(with_reducible refine (impl_WordOk.calls a0 a1 false _ A4.out).mono ?_);rintro e w' ⟨rfl,⟨nd,rfl⟩⟩;refine ⟨_,rfl,?_⟩));go_ret;exact ⟨e1,dn⟩
end Go.Proofs.Ythipjoioicmcnaa.G
