-- texts of this session, merged by a program of it (wip/gen/pack.py)
import Derived.Test.YthipjoioicmcnaaProg
import Derived.Below
import Derived.Deep.Draws
import Derived.Deep.AppendLies
import Derived.Maps.AppendAt
import Derived.OwnWalk
import Derived.Laws.BytesArg
import Derived.Laws.MakeOwn
import Derived.Laws.OwnMore
import Derived.Deep.OwnRows
import Derived.Tactics
import Derived.Lib.ConvBytes
import Derived.Laws.Slices
import Derived.WalkKit
import Derived.KernelRfl
import Derived.RowKit3
import Derived.Deep.LoopGhost
import Derived.Deep.QuietTactic
import Derived.BigQuiet
import Derived.WideLaws
import Derived.Deep.DeepCutAuto
import Derived.Deep.CutBlock
import Derived.Deep.RegionHeld3
import Derived.Laws.Rows
import Derived.Lib.AppendStr
import Derived.ArgAppend
import Derived.Laws.IdiomCopy
import Derived.OrdersHeld
import Derived.Laws.BitsLemmas
import Derived.RowKit
import Derived.Test.YthipjoioicmcnaaKFnExactTableOf1
namespace Go.Proofs.Ythipjoioicmcnaa.G
open Go.RowKit Go.Proofs.YthipjoioicmcnaaW.PrintWords Go.Proofs.YthipjoioicmcnaaW.PrintLast Go.Proofs.YthipjoioicmcnaaW.PrintMore
attribute [local go_sem] max2_int min2_int max_two min_two max_three min_three max_four min_four
set_option linter.unusedVariables false
set_option linter.unusedSimpArgs false
def errW:Option Int→Value
 | none => .nilIface
 | some c => .iface 0 (.int .i64 c)
theorem errW_none:errW none = .nilIface:=rfl
theorem errW_some (c:Int):errW (some c) = .iface 0 (.int .i64 c):=rfl
theorem info3:(Try.prog.info? 3).map (fun i=>(i.zero,i.size,i.bytes))=some (some (.int .i64 0),1,8):=by kernel_rfl
theorem info4:(Try.prog.info? 4).map (fun i=>(i.zero,i.size,i.bytes))=some (some (.bool false),1,1):=by kernel_rfl
theorem info5:(Try.prog.info? 5).map (fun i=>(i.zero,i.size,i.bytes))=some (some (.int .u8 0),1,1):=by kernel_rfl
theorem info66:(Try.prog.info? 66).map (fun i=>(i.zero,i.size,i.bytes))=some (some (.agg #[(.bool false),(.int .i64 0),(.int .i64 0)]),3,24):=by kernel_rfl
theorem info99:(Try.prog.info? 99).map (fun i=>(i.zero,i.size,i.bytes))=some (some (.agg #[(.int .i64 0),(.int .i64 0),(.int .i64 0),(.int .i64 0),(.int .i64 0),(.int .i64 0)]),6,48):=by kernel_rfl
structure S97 where
 f0:Bool
 f1:Int
 f2:Int
def z97:S97:=⟨false,(0:Int),(0:Int)⟩
def k97:Kd S97:=Kd.iso (Kd.pair Kd.bool (Kd.pair (Kd.int .i64) (Kd.int .i64))) (fun x:S97=>(x.f0,x.f1,x.f2))
theorem k97_open {w:World} {x:S97} {cs:List Value} (h:k97.K w x cs):cs=[.bool x.f0,.int .i64 x.f1,.int .i64 x.f2]:=by
 obtain ⟨_,_,rfl,rfl,⟨_,_,rfl,rfl,rfl⟩⟩:=h
 exact rfl
def rd_T97 (xs:List S97) (i:Int):S97:=xs.getD i.toNat z97
theorem at_T97 {w:World} {A:Option Addr} {n:Nat} {xs:List S97} (h:Kd.C k97 w A n xs) (i:Int) (h0:0≤i) (h1:i < n):∃ ad ,A=some ad∧w.cell? (ad.add (i.toNat * 3))=some (.bool (rd_T97 xs i).f0)∧w.cell? ⟨(ad.add (i.toNat * 3)).block,(ad.add (i.toNat * 3)).off + 1,none⟩=some (.int .i64 (rd_T97 xs i).f1)∧w.cell? ⟨(ad.add (i.toNat * 3)).block,(ad.add (i.toNat * 3)).off + 2,none⟩=some (.int .i64 (rd_T97 xs i).f2):=by
 obtain ⟨ad,c,e,_,hK,hc0⟩:=Kd.C_get h z97 i h0 h1
 have hc:∀ j u,c[j]? = some u→w.cell? (ad.add (i.toNat * 3 + j))=some u:=hc0
 obtain rfl:=k97_open hK
 exact ⟨ad,e,hc 0 _ rfl,by rw [← add_field _ _ 1 (by omega)];exact hc 1 _ rfl,by rw [← add_field _ _ 2 (by omega)];exact hc 2 _ rfl⟩
structure S101 where
 f0:Int
 f1:Int
 f2:Int
 f3:Int
 f4:Int
 f5:Int
def z101:S101:=⟨(0:Int),(0:Int),(0:Int),(0:Int),(0:Int),(0:Int)⟩
def k101:Kd S101:=Kd.iso (Kd.pair (Kd.int .i64) (Kd.pair (Kd.int .i64) (Kd.pair (Kd.int .i64) (Kd.pair (Kd.int .i64) (Kd.pair (Kd.int .i64) (Kd.int .i64)))))) (fun x:S101=>(x.f0,x.f1,x.f2,x.f3,x.f4,x.f5))
theorem k101_open {w:World} {x:S101} {cs:List Value} (h:k101.K w x cs):cs=[.int .i64 x.f0,.int .i64 x.f1,.int .i64 x.f2,.int .i64 x.f3,.int .i64 x.f4,.int .i64 x.f5]:=by
 obtain ⟨_,_,rfl,rfl,⟨_,_,rfl,rfl,⟨_,_,rfl,rfl,⟨_,_,rfl,rfl,⟨_,_,rfl,rfl,rfl⟩⟩⟩⟩⟩:=h
 exact rfl
def rd_T101 (xs:List S101) (i:Int):S101:=xs.getD i.toNat z101
theorem at_T101 {w:World} {A:Option Addr} {n:Nat} {xs:List S101} (h:Kd.C k101 w A n xs) (i:Int) (h0:0≤i) (h1:i < n):∃ ad ,A=some ad∧w.cell? (ad.add (i.toNat * 6))=some (.int .i64 (rd_T101 xs i).f0)∧w.cell? ⟨(ad.add (i.toNat * 6)).block,(ad.add (i.toNat * 6)).off + 1,none⟩=some (.int .i64 (rd_T101 xs i).f1)∧w.cell? ⟨(ad.add (i.toNat * 6)).block,(ad.add (i.toNat * 6)).off + 2,none⟩=some (.int .i64 (rd_T101 xs i).f2)∧w.cell? ⟨(ad.add (i.toNat * 6)).block,(ad.add (i.toNat * 6)).off + 3,none⟩=some (.int .i64 (rd_T101 xs i).f3)∧w.cell? ⟨(ad.add (i.toNat * 6)).block,(ad.add (i.toNat * 6)).off + 4,none⟩=some (.int .i64 (rd_T101 xs i).f4)∧w.cell? ⟨(ad.add (i.toNat * 6)).block,(ad.add (i.toNat * 6)).off + 5,none⟩=some (.int .i64 (rd_T101 xs i).f5):=by
 obtain ⟨ad,c,e,_,hK,hc0⟩:=Kd.C_get h z101 i h0 h1
 have hc:∀ j u,c[j]? = some u→w.cell? (ad.add (i.toNat * 6 + j))=some u:=hc0
 obtain rfl:=k101_open hK
 exact ⟨ad,e,hc 0 _ rfl,by rw [← add_field _ _ 1 (by omega)];exact hc 1 _ rfl,by rw [← add_field _ _ 2 (by omega)];exact hc 2 _ rfl,by rw [← add_field _ _ 3 (by omega)];exact hc 3 _ rfl,by rw [← add_field _ _ 4 (by omega)];exact hc 4 _ rfl,by rw [← add_field _ _ 5 (by omega)];exact hc 5 _ rfl⟩
structure S66 where
 f0:Bool
 f1:Int
 f2:Int
def z66:S66:=⟨false,(0:Int),(0:Int)⟩
def k66:Kd S66:=Kd.iso (Kd.pair Kd.bool (Kd.pair (Kd.int .i64) (Kd.int .i64))) (fun x:S66=>(x.f0,x.f1,x.f2))
theorem k66_open {w:World} {x:S66} {cs:List Value} (h:k66.K w x cs):cs=[.bool x.f0,.int .i64 x.f1,.int .i64 x.f2]:=by
 obtain ⟨_,_,rfl,rfl,⟨_,_,rfl,rfl,rfl⟩⟩:=h
 exact rfl
theorem k66_openM {w:World} {base:Nat} {ok:Nat→Prop} {x:S66} {cs:List Value} (h:k66.M w base ok x cs):cs=[.bool x.f0,.int .i64 x.f1,.int .i64 x.f2]:=by
 obtain ⟨_,_,rfl,rfl,⟨_,_,rfl,rfl,rfl⟩⟩:=h
 exact rfl
theorem k66_mkM (w:World) (base:Nat) (ok:Nat→Prop) (x:S66)  : k66.M w base ok x [.bool x.f0,.int .i64 x.f1,.int .i64 x.f2]:=⟨[.bool x.f0],[.int .i64 x.f1,.int .i64 x.f2],rfl,rfl,⟨[.int .i64 x.f1],[.int .i64 x.f2],rfl,rfl,rfl⟩⟩
def rd_T66 (xs:List S66) (i:Int):S66:=xs.getD i.toNat z66
theorem at_T66 {w:World} {A:Option Addr} {n:Nat} {xs:List S66} (h:Kd.C k66 w A n xs) (i:Int) (h0:0≤i) (h1:i < n):∃ ad ,A=some ad∧w.cell? (ad.add (i.toNat * 3))=some (.bool (rd_T66 xs i).f0)∧w.cell? ⟨(ad.add (i.toNat * 3)).block,(ad.add (i.toNat * 3)).off + 1,none⟩=some (.int .i64 (rd_T66 xs i).f1)∧w.cell? ⟨(ad.add (i.toNat * 3)).block,(ad.add (i.toNat * 3)).off + 2,none⟩=some (.int .i64 (rd_T66 xs i).f2):=by
 obtain ⟨ad,c,e,_,hK,hc0⟩:=Kd.C_get h z66 i h0 h1
 have hc:∀ j u,c[j]? = some u→w.cell? (ad.add (i.toNat * 3 + j))=some u:=hc0
 obtain rfl:=k66_open hK
 exact ⟨ad,e,hc 0 _ rfl,by rw [← add_field _ _ 1 (by omega)];exact hc 1 _ rfl,by rw [← add_field _ _ 2 (by omega)];exact hc 2 _ rfl⟩
structure S99 where
 f0:Int
 f1:Int
 f2:Int
 f3:Int
 f4:Int
 f5:Int
def z99:S99:=⟨(0:Int),(0:Int),(0:Int),(0:Int),(0:Int),(0:Int)⟩
def k99:Kd S99:=Kd.iso (Kd.pair (Kd.int .i64) (Kd.pair (Kd.int .i64) (Kd.pair (Kd.int .i64) (Kd.pair (Kd.int .i64) (Kd.pair (Kd.int .i64) (Kd.int .i64)))))) (fun x:S99=>(x.f0,x.f1,x.f2,x.f3,x.f4,x.f5))
theorem k99_open {w:World} {x:S99} {cs:List Value} (h:k99.K w x cs):cs=[.int .i64 x.f0,.int .i64 x.f1,.int .i64 x.f2,.int .i64 x.f3,.int .i64 x.f4,.int .i64 x.f5]:=by
 obtain ⟨_,_,rfl,rfl,⟨_,_,rfl,rfl,⟨_,_,rfl,rfl,⟨_,_,rfl,rfl,⟨_,_,rfl,rfl,rfl⟩⟩⟩⟩⟩:=h
 exact rfl
theorem k99_openM {w:World} {base:Nat} {ok:Nat→Prop} {x:S99} {cs:List Value} (h:k99.M w base ok x cs):cs=[.int .i64 x.f0,.int .i64 x.f1,.int .i64 x.f2,.int .i64 x.f3,.int .i64 x.f4,.int .i64 x.f5]:=by
 obtain ⟨_,_,rfl,rfl,⟨_,_,rfl,rfl,⟨_,_,rfl,rfl,⟨_,_,rfl,rfl,⟨_,_,rfl,rfl,rfl⟩⟩⟩⟩⟩:=h
 exact rfl
theorem k99_mkM (w:World) (base:Nat) (ok:Nat→Prop) (x:S99)  : k99.M w base ok x [.int .i64 x.f0,.int .i64 x.f1,.int .i64 x.f2,.int .i64 x.f3,.int .i64 x.f4,.int .i64 x.f5]:=⟨[.int .i64 x.f0],[.int .i64 x.f1,.int .i64 x.f2,.int .i64 x.f3,.int .i64 x.f4,.int .i64 x.f5],rfl,rfl,⟨[.int .i64 x.f1],[.int .i64 x.f2,.int .i64 x.f3,.int .i64 x.f4,.int .i64 x.f5],rfl,rfl,⟨[.int .i64 x.f2],[.int .i64 x.f3,.int .i64 x.f4,.int .i64 x.f5],rfl,rfl,⟨[.int .i64 x.f3],[.int .i64 x.f4,.int .i64 x.f5],rfl,rfl,⟨[.int .i64 x.f4],[.int .i64 x.f5],rfl,rfl,rfl⟩⟩⟩⟩⟩
def rd_T99 (xs:List S99) (i:Int):S99:=xs.getD i.toNat z99
theorem at_T99 {w:World} {A:Option Addr} {n:Nat} {xs:List S99} (h:Kd.C k99 w A n xs) (i:Int) (h0:0≤i) (h1:i < n):∃ ad ,A=some ad∧w.cell? (ad.add (i.toNat * 6))=some (.int .i64 (rd_T99 xs i).f0)∧w.cell? ⟨(ad.add (i.toNat * 6)).block,(ad.add (i.toNat * 6)).off + 1,none⟩=some (.int .i64 (rd_T99 xs i).f1)∧w.cell? ⟨(ad.add (i.toNat * 6)).block,(ad.add (i.toNat * 6)).off + 2,none⟩=some (.int .i64 (rd_T99 xs i).f2)∧w.cell? ⟨(ad.add (i.toNat * 6)).block,(ad.add (i.toNat * 6)).off + 3,none⟩=some (.int .i64 (rd_T99 xs i).f3)∧w.cell? ⟨(ad.add (i.toNat * 6)).block,(ad.add (i.toNat * 6)).off + 4,none⟩=some (.int .i64 (rd_T99 xs i).f4)∧w.cell? ⟨(ad.add (i.toNat * 6)).block,(ad.add (i.toNat * 6)).off + 5,none⟩=some (.int .i64 (rd_T99 xs i).f5):=by
 obtain ⟨ad,c,e,_,hK,hc0⟩:=Kd.C_get h z99 i h0 h1
 have hc:∀ j u,c[j]? = some u→w.cell? (ad.add (i.toNat * 6 + j))=some u:=hc0
 obtain rfl:=k99_open hK
 exact ⟨ad,e,hc 0 _ rfl,by rw [← add_field _ _ 1 (by omega)];exact hc 1 _ rfl,by rw [← add_field _ _ 2 (by omega)];exact hc 2 _ rfl,by rw [← add_field _ _ 3 (by omega)];exact hc 3 _ rfl,by rw [← add_field _ _ 4 (by omega)];exact hc 4 _ rfl,by rw [← add_field _ _ 5 (by omega)];exact hc 5 _ rfl⟩
end Go.Proofs.Ythipjoioicmcnaa.G
namespace Go.Proofs.Ythipjoioicmcnaa.G
open Go.Proofs.Ythipjoioicmcnaa.Sh
open Go.RowKit Go.Proofs.YthipjoioicmcnaaW.PrintWords Go.Proofs.YthipjoioicmcnaaW.PrintLast Go.Proofs.YthipjoioicmcnaaW.PrintMore
attribute [local go_sem] max2_int min2_int max_two min_two max_three min_three max_four min_four
set_option linter.unusedVariables false
set_option linter.unusedSimpArgs false
def impl_within.f (a0:Int) (a1:Int) (a2:Int):Option (Bool):=if a0 ≥ a1 then (some (decide (a0≤a2))) else (some false)
set_option maxHeartbeats 8000000 in
set_option maxRecDepth 100000 in
theorem impl_within.calls (a0:Int) (a1:Int) (a2:Int) (r:Bool) (w:World) (h:impl_within.f a0 a1 a2=some r) :
  Calls Try.prog 61 #[.int .i64 a0,.int .i64 a1,.int .i64 a2] w fun e w'=>e = .returned (.bool r)∧Drawn0 w w':=by
 have H:(if a0 ≥ a1 then (some (decide (a0≤a2))) else (some false))=some r:=h;clear h
 by_cases c4:a0 ≥ a1
 ·rw [if_pos c4] at H;have c4b0:decide (a1≤a0)=true:=decide_eq_true c4;clear c4;obtain rfl:=os H
  go_enter Try.func61,Try.ntmps61
  go_wp2;go_ret;exact ⟨e1,dn⟩
 ·rw [if_neg c4] at H;have c4b0:decide (a1≤a0)=false:=decide_eq_false c4;clear c4;obtain rfl:=os H
  go_enter Try.func61,Try.ntmps61
  go_wp2;go_ret;exact ⟨e1,dn⟩
def impl_isWidth.f (a0:Int):Option (Bool):=(impl_within.f a0 1 8).bind fun A0=>(some A0)
set_option maxHeartbeats 8000000 in
set_option maxRecDepth 100000 in
theorem impl_isWidth.calls (a0:Int) (r:Bool) (w:World) (h:impl_isWidth.f a0=some r) :
  Calls Try.prog 119 #[.int .i64 a0] w fun e w'=>e = .returned (.bool r)∧Drawn0 w w':=by
 have H:((impl_within.f a0 1 8).bind fun A0=>(some A0))=some r:=h;clear h;replace H:=ob H;obtain ⟨A0,A20,H⟩:=H;replace H:(some A0)=some r:=H;have A2:=Aside0.mk A20;clear A20;obtain rfl:=os H
 go_enter Try.func119,Try.ntmps119
 go_wp2_with (first|((with_reducible refine gate_callee (f:=61) rfl ?_);refine goesL_ (some 4) rfl rfl Try.func61 (by kernel_rfl) rfl #[.int .i64 a0,.int .i64 1,.int .i64 8] rfl ml ?_;(with_reducible refine (impl_within.calls a0 1 8 A0 _ A2.out).mono ?_);rintro e w' ⟨rfl,⟨nd,rfl⟩⟩;refine ⟨_,rfl,?_⟩));go_ret;exact ⟨e1,dn⟩
def impl_WordOk.f (a0:Int) (a1:Int):Option (Bool):=(impl_isWidth.f a0).bind fun A1=>(if A1=true then (if 0≤(IntKind.u64.wrap (a0)) then ((impl_within.f a1 0 (wrap64 ((shl .i64 1 (IntKind.u64.wrap (a0))) - 1))).bind fun A0=>(some A0)) else (none)) else (some false))
set_option maxHeartbeats 8000000 in
set_option maxRecDepth 100000 in
theorem impl_WordOk.calls (a0:Int) (a1:Int) (r:Bool) (w:World) (h:impl_WordOk.f a0 a1=some r) :
  Calls Try.prog 165 #[.int .i64 a0,.int .i64 a1] w fun e w'=>e = .returned (.bool r)∧Drawn0 w w':=by
 have H:((impl_isWidth.f a0).bind fun A1=>(if A1=true then (if 0≤(IntKind.u64.wrap (a0)) then ((impl_within.f a1 0 (wrap64 ((shl .i64 1 (IntKind.u64.wrap (a0))) - 1))).bind fun A0=>(some A0)) else (none)) else (some false)))=some r:=h;clear h;replace H:=ob H;obtain ⟨A1,A30,H⟩:=H;replace H:(if A1=true then (if 0≤(IntKind.u64.wrap (a0)) then ((impl_within.f a1 0 (wrap64 ((shl .i64 1 (IntKind.u64.wrap (a0))) - 1))).bind fun A0=>(some A0)) else (none)) else (some false))=some r:=H;have A3:=Aside0.mk A30;clear A30
 by_cases c4:A1=true
 ·subst c4
  have H1:(if 0≤(IntKind.u64.wrap (a0)) then ((impl_within.f a1 0 (wrap64 ((shl .i64 1 (IntKind.u64.wrap (a0))) - 1))).bind fun A0=>(some A0)) else (none))=some r:=by rw [if_pos rfl] at H;exact H
  clear H;have H:=H1;clear H1;obtain ⟨ji5,hji5⟩:∃ j_:Int,(IntKind.u64.wrap (a0))=j_:=⟨_,rfl⟩
  replace H:(if 0≤(ji5) then ((impl_within.f a1 0 (wrap64 ((shl .i64 1 (ji5)) - 1))).bind fun A0=>(some A0)) else (none))=some r:=by first|(rw [hji5] at H;exact H)|(simp only [hji5] at H ⊢;exact H)
  (try rw [hji5] at A3)
  by_cases c6:0≤(ji5)
  ·rw [if_pos c6] at H;have c6b0:=eq_true c6;have c6b1:decide (0≤(ji5))=true:=decide_eq_true c6;clear c6;obtain ⟨ji7,hji7⟩:∃ j_:Int,(shl .i64 1 (ji5))=j_:=⟨_,rfl⟩
   replace H:((impl_within.f a1 0 (wrap64 ((ji7) - 1))).bind fun A0=>(some A0))=some r:=by first|(rw [hji7] at H;exact H)|(simp only [hji7] at H ⊢;exact H)
   (try rw [hji7] at A3)
   have hji7_:(IntKind.i64.wrap (1 * 2 ^ min (ji5).toNat 64))=ji7:=hji7;have hji7z:(ji5)≤64→(IntKind.i64.wrap (1 * 2 ^ (ji5).toNat))=ji7:=shl_small hji7
   have hji7u:(IntKind.i64.wrap (2 ^ min (ji5).toNat 64))=ji7:=by have h_:=hji7_;rw [Int.one_mul] at h_;exact h_
   have hji7v:(ji5)≤64→(IntKind.i64.wrap (2 ^ (ji5).toNat))=ji7:=fun hle_=>by have h_:=hji7z hle_;rw [Int.one_mul] at h_;exact h_
   have hji7y:(wrap64 (1 * 2 ^ min (ji5).toNat 64))=ji7:=(i64_w _).symm.trans hji7_
   have hji7x:(ji5)≤64→(wrap64 (1 * 2 ^ (ji5).toNat))=ji7:=fun h_=>(i64_w _).symm.trans (hji7z h_)
   replace H:=ob H;obtain ⟨A0,A80,H⟩:=H;replace H:(some A0)=some r:=H;have A8:=Aside0.mk A80;clear A80;obtain rfl:=os H
   go_enter Try.func165,Try.ntmps165
   go_wp2_with (first|((with_reducible refine gate_callee (f:=119) rfl ?_);refine goesL_ (some 6) rfl rfl Try.func119 (by kernel_rfl) rfl #[.int .i64 a0] rfl ml ?_;(with_reducible refine (impl_isWidth.calls a0 true _ A3.out).mono ?_);rintro e w' ⟨rfl,⟨nd,rfl⟩⟩;refine ⟨_,rfl,?_⟩)|(go_at_call 61;(try simp only [i64_w,i32_w]);(with_reducible refine (impl_within.calls a1 0 (wrap64 ((ji7) - 1)) A0 _ A8.out).mono ?_);rintro e w' ⟨rfl,⟨nd,rfl⟩⟩));go_ret;exact ⟨by first|rfl|(simp;done)|(simp only [← hji5,← hji7] <;> (first|rfl|simp))|(simp [*];done),by repeat (first|exact Drawn0.refl _|apply Drawn0.step)⟩
  ·rw [if_neg c6] at H;exact absurd H (by simp)
 ·replace c4:=Bool.eq_false_iff.mpr c4;subst c4
  have H1:(some false)=some r:=by rw [if_neg (show ¬ (false=true) by decide)] at H;exact H
  clear H;have H:=H1;clear H1;obtain rfl:=os H
  go_enter Try.func165,Try.ntmps165
  go_wp2_with (first|((with_reducible refine gate_callee (f:=119) rfl ?_);refine goesL_ (some 6) rfl rfl Try.func119 (by kernel_rfl) rfl #[.int .i64 a0] rfl ml ?_;(with_reducible refine (impl_isWidth.calls a0 false _ A3.out).mono ?_);rintro e w' ⟨rfl,⟨nd,rfl⟩⟩;refine ⟨_,rfl,?_⟩));go_ret;exact ⟨e1,dn⟩
def impl_Flip.f (a0:Int) (a1:Int):Option (Int):=(impl_WordOk.f a0 a1).bind fun A0=>(if A0=true then (if 0≤(IntKind.u64.wrap (a0)) then (some (wrap64 ((wrap64 ((shl .i64 1 (IntKind.u64.wrap (a0))) - 1)) - a1))) else (none)) else (some 0))
set_option maxHeartbeats 8000000 in
set_option maxRecDepth 100000 in
theorem impl_Flip.calls (a0:Int) (a1:Int) (r:Int) (w:World) (h:impl_Flip.f a0 a1=some r) :
  Calls Try.prog 140 #[.int .i64 a0,.int .i64 a1] w fun e w'=>e = .returned (.int .i64 r)∧Drawn0 w w':=by
 have H:((impl_WordOk.f a0 a1).bind fun A0=>(if A0=true then (if 0≤(IntKind.u64.wrap (a0)) then (some (wrap64 ((wrap64 ((shl .i64 1 (IntKind.u64.wrap (a0))) - 1)) - a1))) else (none)) else (some 0)))=some r:=h;clear h;replace H:=ob H;obtain ⟨A0,A30,H⟩:=H;replace H:(if A0=true then (if 0≤(IntKind.u64.wrap (a0)) then (some (wrap64 ((wrap64 ((shl .i64 1 (IntKind.u64.wrap (a0))) - 1)) - a1))) else (none)) else (some 0))=some r:=H;have A3:=Aside0.mk A30;clear A30
 by_cases c4:A0=true
 ·subst c4
  have H1:(if 0≤(IntKind.u64.wrap (a0)) then (some (wrap64 ((wrap64 ((shl .i64 1 (IntKind.u64.wrap (a0))) - 1)) - a1))) else (none))=some r:=by rw [if_pos rfl] at H;exact H
  clear H;have H:=H1;clear H1;obtain ⟨ji5,hji5⟩:∃ j_:Int,(IntKind.u64.wrap (a0))=j_:=⟨_,rfl⟩
  replace H:(if 0≤(ji5) then (some (wrap64 ((wrap64 ((shl .i64 1 (ji5)) - 1)) - a1))) else (none))=some r:=by first|(rw [hji5] at H;exact H)|(simp only [hji5] at H ⊢;exact H)
  (try rw [hji5] at A3)
  by_cases c6:0≤(ji5)
  ·rw [if_pos c6] at H;have c6b0:=eq_true c6;have c6b1:decide (0≤(ji5))=true:=decide_eq_true c6;clear c6;obtain ⟨ji7,hji7⟩:∃ j_:Int,(shl .i64 1 (ji5))=j_:=⟨_,rfl⟩
   replace H:(some (wrap64 ((wrap64 ((ji7) - 1)) - a1)))=some r:=by first|(rw [hji7] at H;exact H)|(simp only [hji7] at H ⊢;exact H)
   (try rw [hji7] at A3)
   have hji7_:(IntKind.i64.wrap (1 * 2 ^ min (ji5).toNat 64))=ji7:=hji7;have hji7z:(ji5)≤64→(IntKind.i64.wrap (1 * 2 ^ (ji5).toNat))=ji7:=shl_small hji7
   have hji7u:(IntKind.i64.wrap (2 ^ min (ji5).toNat 64))=ji7:=by have h_:=hji7_;rw [Int.one_mul] at h_;exact h_
   have hji7v:(ji5)≤64→(IntKind.i64.wrap (2 ^ (ji5).toNat))=ji7:=fun hle_=>by have h_:=hji7z hle_;rw [Int.one_mul] at h_;exact h_
   have hji7y:(wrap64 (1 * 2 ^ min (ji5).toNat 64))=ji7:=(i64_w _).symm.trans hji7_
   have hji7x:(ji5)≤64→(wrap64 (1 * 2 ^ (ji5).toNat))=ji7:=fun h_=>(i64_w _).symm.trans (hji7z h_)
   obtain rfl:=os H
   go_enter Try.func140,Try.ntmps140
   go_wp2_with (first|((with_reducible refine gate_callee (f:=165) rfl ?_);refine goesL_ (some 7) rfl rfl Try.func165 (by kernel_rfl) rfl #[.int .i64 a0,.int .i64 a1] rfl ml ?_;(with_reducible refine (impl_WordOk.calls a0 a1 true _ A3.out).mono ?_);rintro e w' ⟨rfl,⟨nd,rfl⟩⟩;refine ⟨_,rfl,?_⟩));go_ret;exact ⟨by first|rfl|(simp;done)|(simp only [← hji5,← hji7] <;> (first|rfl|simp))|(simp [*];done),by repeat (first|exact Drawn0.refl _|apply Drawn0.step)⟩
  ·rw [if_neg c6] at H;exact absurd H (by simp)
 ·replace c4:=Bool.eq_false_iff.mpr c4;subst c4
  have H1:(some 0)=some r:=by rw [if_neg (show ¬ (false=true) by decide)] at H;exact H
  clear H;have H:=H1;clear H1;obtain rfl:=os H
  go_enter Try.func140,Try.ntmps140
  go_wp2_with (first|((with_reducible refine gate_callee (f:=165) rfl ?_);refine goesL_ (some 7) rfl rfl Try.func165 (by kernel_rfl) rfl #[.int .i64 a0,.int .i64 a1] rfl ml ?_;(with_reducible refine (impl_WordOk.calls a0 a1 false _ A3.out).mono ?_);rintro e w' ⟨rfl,⟨nd,rfl⟩⟩;refine ⟨_,rfl,?_⟩));go_ret;exact ⟨e1,dn⟩
def impl_bit.f (a0:Bool):Option (Int):=if a0=true then (some 1) else (some 0)
set_option maxHeartbeats 8000000 in
set_option maxRecDepth 100000 in
theorem impl_bit.calls (a0:Bool) (r:Int) (w:World) (h:impl_bit.f a0=some r) :
  Calls Try.prog 111 #[.bool a0] w fun e w'=>e = .returned (.int .i64 r)∧Drawn0 w w':=by
 have H:(if a0=true then (some 1) else (some 0))=some r:=h;clear h
 by_cases c2:a0=true
 ·subst c2
  have H1:(some 1)=some r:=by rw [if_pos rfl] at H;exact H
  clear H;have H:=H1;clear H1;obtain rfl:=os H
  go_enter Try.func111,Try.ntmps111
  go_wp2;go_ret;exact ⟨e1,dn⟩
 ·replace c2:=Bool.eq_false_iff.mpr c2;subst c2
  have H1:(some 0)=some r:=by rw [if_neg (show ¬ (false=true) by decide)] at H;exact H
  clear H;have H:=H1;clear H1;obtain rfl:=os H
  go_enter Try.func111,Try.ntmps111
  go_wp2;go_ret;exact ⟨e1,dn⟩
def impl_two.f (a0:Int) (a1:Int) (a2:Int):Option (Bool):=(impl_WordOk.f a0 a1).bind fun A1=>(if A1=true then ((impl_WordOk.f a0 a2).bind fun A0=>(some A0)) else (some false))
set_option maxHeartbeats 8000000 in
set_option maxRecDepth 100000 in
theorem impl_two.calls (a0:Int) (a1:Int) (a2:Int) (r:Bool) (w:World) (h:impl_two.f a0 a1 a2=some r) :
  Calls Try.prog 173 #[.int .i64 a0,.int .i64 a1,.int .i64 a2] w fun e w'=>e = .returned (.bool r)∧Drawn0 w w':=by
 have H:((impl_WordOk.f a0 a1).bind fun A1=>(if A1=true then ((impl_WordOk.f a0 a2).bind fun A0=>(some A0)) else (some false)))=some r:=h;clear h;replace H:=ob H;obtain ⟨A1,A40,H⟩:=H;replace H:(if A1=true then ((impl_WordOk.f a0 a2).bind fun A0=>(some A0)) else (some false))=some r:=H;have A4:=Aside0.mk A40;clear A40
 by_cases c5:A1=true
 ·subst c5
  have H1:((impl_WordOk.f a0 a2).bind fun A0=>(some A0))=some r:=by rw [if_pos rfl] at H;exact H
  clear H;have H:=H1;clear H1;replace H:=ob H;obtain ⟨A0,A60,H⟩:=H;replace H:(some A0)=some r:=H;have A6:=Aside0.mk A60;clear A60;obtain rfl:=os H
  go_enter Try.func173,Try.ntmps173
  go_wp2_with (first|((with_reducible refine gate_callee (f:=165) rfl ?_);refine goesL_ (some 9) rfl rfl Try.func165 (by kernel_rfl) rfl #[.int .i64 a0,.int .i64 a1] rfl ml ?_;(with_reducible refine (impl_WordOk.calls a0 a1 true _ A4.out).mono ?_);rintro e w' ⟨rfl,⟨nd,rfl⟩⟩;refine ⟨_,rfl,?_⟩)|(go_at_call 165;(try simp only [i64_w,i32_w]);(with_reducible refine (impl_WordOk.calls a0 a2 A0 _ A6.out).mono ?_);rintro e w' ⟨rfl,⟨nd,rfl⟩⟩));go_ret;exact ⟨e1,dn⟩
 ·replace c5:=Bool.eq_false_iff.mpr c5;subst c5
  have H1:(some false)=some r:=by rw [if_neg (show ¬ (false=true) by decide)] at H;exact H
  clear H;have H:=H1;clear H1;obtain rfl:=os H
  go_enter Try.func173,Try.ntmps173
  go_wp2_with (first|((with_reducible refine gate_callee (f:=165) rfl ?_);refine goesL_ (some 9) rfl rfl Try.func165 (by kernel_rfl) rfl #[.int .i64 a0,.int .i64 a1] rfl ml ?_;(with_reducible refine (impl_WordOk.calls a0 a1 false _ A4.out).mono ?_);rintro e w' ⟨rfl,⟨nd,rfl⟩⟩;refine ⟨_,rfl,?_⟩));go_ret;exact ⟨e1,dn⟩
def impl_Less.f (a0:Int) (a1:Int) (a2:Int):Option (Int):=(impl_two.f a0 a1 a2).bind fun A2=>(if A2=true then ((impl_bit.f (decide (a1 < a2))).bind fun A0=>(some A0)) else ((impl_bit.f false).bind fun A1=>(some A1)))
set_option maxHeartbeats 8000000 in
set_option maxRecDepth 100000 in
theorem impl_Less.calls (a0:Int) (a1:Int) (a2:Int) (r:Int) (w:World) (h:impl_Less.f a0 a1 a2=some r) :
  Calls Try.prog 142 #[.int .i64 a0,.int .i64 a1,.int .i64 a2] w fun e w'=>e = .returned (.int .i64 r)∧Drawn0 w w':=by
 have H:((impl_two.f a0 a1 a2).bind fun A2=>(if A2=true then ((impl_bit.f (decide (a1 < a2))).bind fun A0=>(some A0)) else ((impl_bit.f false).bind fun A1=>(some A1))))=some r:=h;clear h;replace H:=ob H;obtain ⟨A2,A40,H⟩:=H;replace H:(if A2=true then ((impl_bit.f (decide (a1 < a2))).bind fun A0=>(some A0)) else ((impl_bit.f false).bind fun A1=>(some A1)))=some r:=H;have A4:=Aside0.mk A40;clear A40
 by_cases c5:A2=true
 ·subst c5
  have H1:((impl_bit.f (decide (a1 < a2))).bind fun A0=>(some A0))=some r:=by rw [if_pos rfl] at H;exact H
  clear H;have H:=H1;clear H1;replace H:=ob H;obtain ⟨A0,A60,H⟩:=H;replace H:(some A0)=some r:=H;have A6:=Aside0.mk A60;clear A60;obtain rfl:=os H
  go_enter Try.func142,Try.ntmps142
  go_wp2_with (first|((with_reducible refine gate_callee (f:=173) rfl ?_);refine goesL_ (some 10) rfl rfl Try.func173 (by kernel_rfl) rfl #[.int .i64 a0,.int .i64 a1,.int .i64 a2] rfl ml ?_;(with_reducible refine (impl_two.calls a0 a1 a2 true _ A4.out).mono ?_);rintro e w' ⟨rfl,⟨nd,rfl⟩⟩;refine ⟨_,rfl,?_⟩)|((with_reducible refine gate_callee (f:=111) rfl ?_);refine goesL_ (some 16) rfl rfl Try.func111 (by kernel_rfl) rfl #[.bool (decide (a1 < a2))] rfl ml ?_;(with_reducible refine (impl_bit.calls (decide (a1 < a2)) A0 _ A6.out).mono ?_);rintro e w' ⟨rfl,⟨nd,rfl⟩⟩;refine ⟨_,rfl,?_⟩));go_ret;exact ⟨e1,dn⟩
 ·replace c5:=Bool.eq_false_iff.mpr c5;subst c5
  have H1:((impl_bit.f false).bind fun A1=>(some A1))=some r:=by rw [if_neg (show ¬ (false=true) by decide)] at H;exact H
  clear H;have H:=H1;clear H1;replace H:=ob H;obtain ⟨A1,A70,H⟩:=H;replace H:(some A1)=some r:=H;have A7:=Aside0.mk A70;clear A70;obtain rfl:=os H
  go_enter Try.func142,Try.ntmps142
  go_wp2_with (first|((with_reducible refine gate_callee (f:=173) rfl ?_);refine goesL_ (some 10) rfl rfl Try.func173 (by kernel_rfl) rfl #[.int .i64 a0,.int .i64 a1,.int .i64 a2] rfl ml ?_;(with_reducible refine (impl_two.calls a0 a1 a2 false _ A4.out).mono ?_);rintro e w' ⟨rfl,⟨nd,rfl⟩⟩;refine ⟨_,rfl,?_⟩)|((with_reducible refine gate_callee (f:=111) rfl ?_);refine goesL_ (some 16) rfl rfl Try.func111 (by kernel_rfl) rfl #[.bool false] rfl ml ?_;(with_reducible refine (impl_bit.calls false A1 _ A7.out).mono ?_);rintro e w' ⟨rfl,⟨nd,rfl⟩⟩;refine ⟨_,rfl,?_⟩));go_ret;exact ⟨e1,dn⟩
def impl_Signed.f (a0:Int) (a1:Int):Option (Int):=(impl_WordOk.f a0 a1).bind fun A0=>(if A0=true then (if 0≤(IntKind.u64.wrap (wrap64 (a0 - 1))) then (if a1 ≥ (shl .i64 1 (IntKind.u64.wrap (wrap64 (a0 - 1)))) then (if 0≤(IntKind.u64.wrap (a0)) then (some (wrap64 (a1 - (shl .i64 1 (IntKind.u64.wrap (a0)))))) else (none)) else (some a1)) else (none)) else (some 0))
set_option maxHeartbeats 8000000 in
set_option maxRecDepth 100000 in
theorem impl_Signed.calls (a0:Int) (a1:Int) (r:Int) (w:World) (h:impl_Signed.f a0 a1=some r) :
  Calls Try.prog 174 #[.int .i64 a0,.int .i64 a1] w fun e w'=>e = .returned (.int .i64 r)∧Drawn0 w w':=by
 have H:((impl_WordOk.f a0 a1).bind fun A0=>(if A0=true then (if 0≤(IntKind.u64.wrap (wrap64 (a0 - 1))) then (if a1 ≥ (shl .i64 1 (IntKind.u64.wrap (wrap64 (a0 - 1)))) then (if 0≤(IntKind.u64.wrap (a0)) then (some (wrap64 (a1 - (shl .i64 1 (IntKind.u64.wrap (a0)))))) else (none)) else (some a1)) else (none)) else (some 0)))=some r:=h;clear h;replace H:=ob H;obtain ⟨A0,A30,H⟩:=H;replace H:(if A0=true then (if 0≤(IntKind.u64.wrap (wrap64 (a0 - 1))) then (if a1 ≥ (shl .i64 1 (IntKind.u64.wrap (wrap64 (a0 - 1)))) then (if 0≤(IntKind.u64.wrap (a0)) then (some (wrap64 (a1 - (shl .i64 1 (IntKind.u64.wrap (a0)))))) else (none)) else (some a1)) else (none)) else (some 0))=some r:=H;have A3:=Aside0.mk A30;clear A30
 by_cases c4:A0=true
 ·subst c4
  have H1:(if 0≤(IntKind.u64.wrap (wrap64 (a0 - 1))) then (if a1 ≥ (shl .i64 1 (IntKind.u64.wrap (wrap64 (a0 - 1)))) then (if 0≤(IntKind.u64.wrap (a0)) then (some (wrap64 (a1 - (shl .i64 1 (IntKind.u64.wrap (a0)))))) else (none)) else (some a1)) else (none))=some r:=by rw [if_pos rfl] at H;exact H
  clear H;have H:=H1;clear H1;obtain ⟨ji5,hji5⟩:∃ j_:Int,(IntKind.u64.wrap (wrap64 (a0 - 1)))=j_:=⟨_,rfl⟩
  replace H:(if 0≤(ji5) then (if a1 ≥ (shl .i64 1 (ji5)) then (if 0≤(IntKind.u64.wrap (a0)) then (some (wrap64 (a1 - (shl .i64 1 (IntKind.u64.wrap (a0)))))) else (none)) else (some a1)) else (none))=some r:=by first|(rw [hji5] at H;exact H)|(simp only [hji5] at H ⊢;exact H)
  (try rw [hji5] at A3)
  by_cases c6:0≤(ji5)
  ·rw [if_pos c6] at H;have c6b0:=eq_true c6;have c6b1:decide (0≤(ji5))=true:=decide_eq_true c6;clear c6;obtain ⟨ji7,hji7⟩:∃ j_:Int,(shl .i64 1 (ji5))=j_:=⟨_,rfl⟩
   replace H:(if a1 ≥ (ji7) then (if 0≤(IntKind.u64.wrap (a0)) then (some (wrap64 (a1 - (shl .i64 1 (IntKind.u64.wrap (a0)))))) else (none)) else (some a1))=some r:=by first|(rw [hji7] at H;exact H)|(simp only [hji7] at H ⊢;exact H)
   (try rw [hji7] at A3)
   have hji7_:(IntKind.i64.wrap (1 * 2 ^ min (ji5).toNat 64))=ji7:=hji7;have hji7z:(ji5)≤64→(IntKind.i64.wrap (1 * 2 ^ (ji5).toNat))=ji7:=shl_small hji7
   have hji7u:(IntKind.i64.wrap (2 ^ min (ji5).toNat 64))=ji7:=by have h_:=hji7_;rw [Int.one_mul] at h_;exact h_
   have hji7v:(ji5)≤64→(IntKind.i64.wrap (2 ^ (ji5).toNat))=ji7:=fun hle_=>by have h_:=hji7z hle_;rw [Int.one_mul] at h_;exact h_
   have hji7y:(wrap64 (1 * 2 ^ min (ji5).toNat 64))=ji7:=(i64_w _).symm.trans hji7_
   have hji7x:(ji5)≤64→(wrap64 (1 * 2 ^ (ji5).toNat))=ji7:=fun h_=>(i64_w _).symm.trans (hji7z h_)
   by_cases c8:a1 ≥ (ji7)
   ·rw [if_pos c8] at H;have c8b0:decide ((ji7)≤a1)=true:=decide_eq_true c8;clear c8;obtain ⟨ji9,hji9⟩:∃ j_:Int,(IntKind.u64.wrap (a0))=j_:=⟨_,rfl⟩
    replace H:(if 0≤(ji9) then (some (wrap64 (a1 - (shl .i64 1 (ji9))))) else (none))=some r:=by first|(rw [hji9] at H;exact H)|(simp only [hji9] at H ⊢;exact H)
    (try rw [hji9] at A3)
    by_cases c10:0≤(ji9)
    ·rw [if_pos c10] at H;have c10b0:=eq_true c10;have c10b1:decide (0≤(ji9))=true:=decide_eq_true c10;clear c10;obtain ⟨ji11,hji11⟩:∃ j_:Int,(shl .i64 1 (ji9))=j_:=⟨_,rfl⟩
     replace H:(some (wrap64 (a1 - (ji11))))=some r:=by first|(rw [hji11] at H;exact H)|(simp only [hji11] at H ⊢;exact H)
     (try rw [hji11] at A3)
     have hji11_:(IntKind.i64.wrap (1 * 2 ^ min (ji9).toNat 64))=ji11:=hji11;have hji11z:(ji9)≤64→(IntKind.i64.wrap (1 * 2 ^ (ji9).toNat))=ji11:=shl_small hji11
     have hji11u:(IntKind.i64.wrap (2 ^ min (ji9).toNat 64))=ji11:=by have h_:=hji11_;rw [Int.one_mul] at h_;exact h_
     have hji11v:(ji9)≤64→(IntKind.i64.wrap (2 ^ (ji9).toNat))=ji11:=fun hle_=>by have h_:=hji11z hle_;rw [Int.one_mul] at h_;exact h_
     have hji11y:(wrap64 (1 * 2 ^ min (ji9).toNat 64))=ji11:=(i64_w _).symm.trans hji11_
     have hji11x:(ji9)≤64→(wrap64 (1 * 2 ^ (ji9).toNat))=ji11:=fun h_=>(i64_w _).symm.trans (hji11z h_)
     obtain rfl:=os H
     go_enter Try.func174,Try.ntmps174
     go_wp2_with (first|((with_reducible refine gate_callee (f:=165) rfl ?_);refine goesL_ (some 8) rfl rfl Try.func165 (by kernel_rfl) rfl #[.int .i64 a0,.int .i64 a1] rfl ml ?_;(with_reducible refine (impl_WordOk.calls a0 a1 true _ A3.out).mono ?_);rintro e w' ⟨rfl,⟨nd,rfl⟩⟩;refine ⟨_,rfl,?_⟩));go_ret;exact ⟨by first|rfl|(simp;done)|(simp only [← hji5,← hji7,← hji9,← hji11] <;> (first|rfl|simp))|(simp [*];done),by repeat (first|exact Drawn0.refl _|apply Drawn0.step)⟩
    ·rw [if_neg c10] at H;exact absurd H (by simp)
   ·rw [if_neg c8] at H;have c8b0:decide ((ji7)≤a1)=false:=decide_eq_false c8;clear c8;obtain rfl:=os H
    go_enter Try.func174,Try.ntmps174
    go_wp2_with (first|((with_reducible refine gate_callee (f:=165) rfl ?_);refine goesL_ (some 8) rfl rfl Try.func165 (by kernel_rfl) rfl #[.int .i64 a0,.int .i64 a1] rfl ml ?_;(with_reducible refine (impl_WordOk.calls a0 a1 true _ A3.out).mono ?_);rintro e w' ⟨rfl,⟨nd,rfl⟩⟩;refine ⟨_,rfl,?_⟩));go_ret;exact ⟨by first|rfl|(simp;done)|(simp only [← hji5,← hji7] <;> (first|rfl|simp))|(simp [*];done),by repeat (first|exact Drawn0.refl _|apply Drawn0.step)⟩
  ·rw [if_neg c6] at H;exact absurd H (by simp)
 ·replace c4:=Bool.eq_false_iff.mpr c4;subst c4
  have H1:(some 0)=some r:=by rw [if_neg (show ¬ (false=true) by decide)] at H;exact H
  clear H;have H:=H1;clear H1;obtain rfl:=os H
  go_enter Try.func174,Try.ntmps174
  go_wp2_with (first|((with_reducible refine gate_callee (f:=165) rfl ?_);refine goesL_ (some 8) rfl rfl Try.func165 (by kernel_rfl) rfl #[.int .i64 a0,.int .i64 a1] rfl ml ?_;(with_reducible refine (impl_WordOk.calls a0 a1 false _ A3.out).mono ?_);rintro e w' ⟨rfl,⟨nd,rfl⟩⟩;refine ⟨_,rfl,?_⟩));go_ret;exact ⟨e1,dn⟩
def impl_LessSigned.f (a0:Int) (a1:Int) (a2:Int):Option (Int):=(impl_two.f a0 a1 a2).bind fun A5=>(if A5=true then ((impl_Signed.f a0 a1).bind fun A2=>((impl_Signed.f a0 a2).bind fun A0=>((impl_bit.f (decide (A2 < A0))).bind fun A1=>(some A1)))) else ((impl_bit.f false).bind fun A3=>(some A3)))
set_option maxHeartbeats 8000000 in
set_option maxRecDepth 100000 in
theorem impl_LessSigned.calls (a0:Int) (a1:Int) (a2:Int) (r:Int) (w:World) (h:impl_LessSigned.f a0 a1 a2=some r) :
  Calls Try.prog 143 #[.int .i64 a0,.int .i64 a1,.int .i64 a2] w fun e w'=>e = .returned (.int .i64 r)∧Drawn0 w w':=by
 have H:((impl_two.f a0 a1 a2).bind fun A5=>(if A5=true then ((impl_Signed.f a0 a1).bind fun A2=>((impl_Signed.f a0 a2).bind fun A0=>((impl_bit.f (decide (A2 < A0))).bind fun A1=>(some A1)))) else ((impl_bit.f false).bind fun A3=>(some A3))))=some r:=h;clear h;replace H:=ob H;obtain ⟨A5,A40,H⟩:=H;replace H:(if A5=true then ((impl_Signed.f a0 a1).bind fun A2=>((impl_Signed.f a0 a2).bind fun A0=>((impl_bit.f (decide (A2 < A0))).bind fun A1=>(some A1)))) else ((impl_bit.f false).bind fun A3=>(some A3)))=some r:=H;have A4:=Aside0.mk A40;clear A40
 by_cases c5:A5=true
 ·subst c5
  have H1:((impl_Signed.f a0 a1).bind fun A2=>((impl_Signed.f a0 a2).bind fun A0=>((impl_bit.f (decide (A2 < A0))).bind fun A1=>(some A1))))=some r:=by rw [if_pos rfl] at H;exact H
  clear H;have H:=H1;clear H1;replace H:=ob H;obtain ⟨A2,A60,H⟩:=H;replace H:((impl_Signed.f a0 a2).bind fun A0=>((impl_bit.f (decide (A2 < A0))).bind fun A1=>(some A1)))=some r:=H;have A6:=Aside0.mk A60;clear A60;replace H:=ob H;obtain ⟨A0,A70,H⟩:=H;replace H:((impl_bit.f (decide (A2 < A0))).bind fun A1=>(some A1))=some r:=H;have A7:=Aside0.mk A70;clear A70;replace H:=ob H;obtain ⟨A1,A80,H⟩:=H;replace H:(some A1)=some r:=H;have A8:=Aside0.mk A80;clear A80;obtain rfl:=os H
  go_enter Try.func143,Try.ntmps143
  go_wp2_with (first|((with_reducible refine gate_callee (f:=173) rfl ?_);refine goesL_ (some 10) rfl rfl Try.func173 (by kernel_rfl) rfl #[.int .i64 a0,.int .i64 a1,.int .i64 a2] rfl ml ?_;(with_reducible refine (impl_two.calls a0 a1 a2 true _ A4.out).mono ?_);rintro e w' ⟨rfl,⟨nd,rfl⟩⟩;refine ⟨_,rfl,?_⟩)|(go_at_call 174;(try simp only [i64_w,i32_w]);(with_reducible refine (impl_Signed.calls a0 a1 A2 _ A6.out).mono ?_);rintro e w' ⟨rfl,⟨nd,rfl⟩⟩)|(go_at_call 174;(try simp only [i64_w,i32_w]);(with_reducible refine (impl_Signed.calls a0 a2 A0 _ A7.out).mono ?_);rintro e w' ⟨rfl,⟨nd,rfl⟩⟩)|((with_reducible refine gate_callee (f:=111) rfl ?_);refine goesL_ (some 20) rfl rfl Try.func111 (by kernel_rfl) rfl #[.bool (decide (A2 < A0))] rfl ml ?_;(with_reducible refine (impl_bit.calls (decide (A2 < A0)) A1 _ A8.out).mono ?_);rintro e w' ⟨rfl,⟨nd,rfl⟩⟩;refine ⟨_,rfl,?_⟩));go_ret;exact ⟨e1,dn⟩
 ·replace c5:=Bool.eq_false_iff.mpr c5;subst c5
  have H1:((impl_bit.f false).bind fun A3=>(some A3))=some r:=by rw [if_neg (show ¬ (false=true) by decide)] at H;exact H
  clear H;have H:=H1;clear H1;replace H:=ob H;obtain ⟨A3,A90,H⟩:=H;replace H:(some A3)=some r:=H;have A9:=Aside0.mk A90;clear A90;obtain rfl:=os H
  go_enter Try.func143,Try.ntmps143
  go_wp2_with (first|((with_reducible refine gate_callee (f:=173) rfl ?_);refine goesL_ (some 10) rfl rfl Try.func173 (by kernel_rfl) rfl #[.int .i64 a0,.int .i64 a1,.int .i64 a2] rfl ml ?_;(with_reducible refine (impl_two.calls a0 a1 a2 false _ A4.out).mono ?_);rintro e w' ⟨rfl,⟨nd,rfl⟩⟩;refine ⟨_,rfl,?_⟩)|((with_reducible refine gate_callee (f:=111) rfl ?_);refine goesL_ (some 20) rfl rfl Try.func111 (by kernel_rfl) rfl #[.bool false] rfl ml ?_;(with_reducible refine (impl_bit.calls false A3 _ A9.out).mono ?_);rintro e w' ⟨rfl,⟨nd,rfl⟩⟩;refine ⟨_,rfl,?_⟩));go_ret;exact ⟨e1,dn⟩
def impl_cut.f (a0:Int) (a1:Int):Option (Int):=if 0≤(IntKind.u64.wrap (a0)) then (some (Go.bits .and .i64 a1 (wrap64 ((shl .i64 1 (IntKind.u64.wrap (a0))) - 1)))) else (none)
set_option maxHeartbeats 8000000 in
set_option maxRecDepth 100000 in
theorem impl_cut.calls (a0:Int) (a1:Int) (r:Int) (w:World) (h:impl_cut.f a0 a1=some r) :
  Calls Try.prog 64 #[.int .i64 a0,.int .i64 a1] w fun e w'=>e = .returned (.int .i64 r)∧Drawn0 w w':=by
 have H:(if 0≤(IntKind.u64.wrap (a0)) then (some (Go.bits .and .i64 a1 (wrap64 ((shl .i64 1 (IntKind.u64.wrap (a0))) - 1)))) else (none))=some r:=h;clear h;obtain ⟨ji3,hji3⟩:∃ j_:Int,(IntKind.u64.wrap (a0))=j_:=⟨_,rfl⟩
 replace H:(if 0≤(ji3) then (some (Go.bits .and .i64 a1 (wrap64 ((shl .i64 1 (ji3)) - 1)))) else (none))=some r:=by first|(rw [hji3] at H;exact H)|(simp only [hji3] at H ⊢;exact H)
 by_cases c4:0≤(ji3)
 ·rw [if_pos c4] at H;have c4b0:=eq_true c4;have c4b1:decide (0≤(ji3))=true:=decide_eq_true c4;clear c4;obtain ⟨ji5,hji5⟩:∃ j_:Int,(shl .i64 1 (ji3))=j_:=⟨_,rfl⟩
  replace H:(some (Go.bits .and .i64 a1 (wrap64 ((ji5) - 1))))=some r:=by first|(rw [hji5] at H;exact H)|(simp only [hji5] at H ⊢;exact H)
  have hji5_:(IntKind.i64.wrap (1 * 2 ^ min (ji3).toNat 64))=ji5:=hji5;have hji5z:(ji3)≤64→(IntKind.i64.wrap (1 * 2 ^ (ji3).toNat))=ji5:=shl_small hji5
  have hji5u:(IntKind.i64.wrap (2 ^ min (ji3).toNat 64))=ji5:=by have h_:=hji5_;rw [Int.one_mul] at h_;exact h_
  have hji5v:(ji3)≤64→(IntKind.i64.wrap (2 ^ (ji3).toNat))=ji5:=fun hle_=>by have h_:=hji5z hle_;rw [Int.one_mul] at h_;exact h_
  have hji5y:(wrap64 (1 * 2 ^ min (ji3).toNat 64))=ji5:=(i64_w _).symm.trans hji5_
  have hji5x:(ji3)≤64→(wrap64 (1 * 2 ^ (ji3).toNat))=ji5:=fun h_=>(i64_w _).symm.trans (hji5z h_)
  obtain rfl:=os H
  go_enter Try.func64,Try.ntmps64
  go_wp2;go_ret;exact ⟨by first|rfl|(simp;done)|(simp only [← hji3,← hji5] <;> (first|rfl|simp))|(simp [*];done),by repeat (first|exact Drawn0.refl _|apply Drawn0.step)⟩
 ·rw [if_neg c4] at H;exact absurd H (by simp)
def impl_Slice.f (a0:Int) (a1:Int) (a2:Int) (a3:Int):Option (Int):=(impl_WordOk.f a0 a1).bind fun A3=>(if A3=true then ((impl_within.f a3 1 a0).bind fun A2=>(if A2=true then ((impl_within.f a2 0 (wrap64 (a0 - a3))).bind fun A1=>(if A1=true then (if 0≤(IntKind.u64.wrap (a2)) then ((impl_cut.f a3 (shr .i64 a1 (IntKind.u64.wrap (a2)))).bind fun A0=>(some A0)) else (none)) else (some 0))) else (some 0))) else (some 0))
set_option maxHeartbeats 8000000 in
set_option maxRecDepth 100000 in
theorem impl_Slice.calls (a0:Int) (a1:Int) (a2:Int) (a3:Int) (r:Int) (w:World) (h:impl_Slice.f a0 a1 a2 a3=some r) :
  Calls Try.prog 144 #[.int .i64 a0,.int .i64 a1,.int .i64 a2,.int .i64 a3] w fun e w'=>e = .returned (.int .i64 r)∧Drawn0 w w':=by
 have H:((impl_WordOk.f a0 a1).bind fun A3=>(if A3=true then ((impl_within.f a3 1 a0).bind fun A2=>(if A2=true then ((impl_within.f a2 0 (wrap64 (a0 - a3))).bind fun A1=>(if A1=true then (if 0≤(IntKind.u64.wrap (a2)) then ((impl_cut.f a3 (shr .i64 a1 (IntKind.u64.wrap (a2)))).bind fun A0=>(some A0)) else (none)) else (some 0))) else (some 0))) else (some 0)))=some r:=h;clear h;replace H:=ob H;obtain ⟨A3,A50,H⟩:=H;replace H:(if A3=true then ((impl_within.f a3 1 a0).bind fun A2=>(if A2=true then ((impl_within.f a2 0 (wrap64 (a0 - a3))).bind fun A1=>(if A1=true then (if 0≤(IntKind.u64.wrap (a2)) then ((impl_cut.f a3 (shr .i64 a1 (IntKind.u64.wrap (a2)))).bind fun A0=>(some A0)) else (none)) else (some 0))) else (some 0))) else (some 0))=some r:=H;have A5:=Aside0.mk A50;clear A50
 by_cases c6:A3=true
 ·subst c6
  have H1:((impl_within.f a3 1 a0).bind fun A2=>(if A2=true then ((impl_within.f a2 0 (wrap64 (a0 - a3))).bind fun A1=>(if A1=true then (if 0≤(IntKind.u64.wrap (a2)) then ((impl_cut.f a3 (shr .i64 a1 (IntKind.u64.wrap (a2)))).bind fun A0=>(some A0)) else (none)) else (some 0))) else (some 0)))=some r:=by rw [if_pos rfl] at H;exact H
  clear H;have H:=H1;clear H1;replace H:=ob H;obtain ⟨A2,A70,H⟩:=H;replace H:(if A2=true then ((impl_within.f a2 0 (wrap64 (a0 - a3))).bind fun A1=>(if A1=true then (if 0≤(IntKind.u64.wrap (a2)) then ((impl_cut.f a3 (shr .i64 a1 (IntKind.u64.wrap (a2)))).bind fun A0=>(some A0)) else (none)) else (some 0))) else (some 0))=some r:=H;have A7:=Aside0.mk A70;clear A70
  by_cases c8:A2=true
  ·subst c8
   have H1:((impl_within.f a2 0 (wrap64 (a0 - a3))).bind fun A1=>(if A1=true then (if 0≤(IntKind.u64.wrap (a2)) then ((impl_cut.f a3 (shr .i64 a1 (IntKind.u64.wrap (a2)))).bind fun A0=>(some A0)) else (none)) else (some 0)))=some r:=by rw [if_pos rfl] at H;exact H
   clear H;have H:=H1;clear H1;replace H:=ob H;obtain ⟨A1,A90,H⟩:=H;replace H:(if A1=true then (if 0≤(IntKind.u64.wrap (a2)) then ((impl_cut.f a3 (shr .i64 a1 (IntKind.u64.wrap (a2)))).bind fun A0=>(some A0)) else (none)) else (some 0))=some r:=H;have A9:=Aside0.mk A90;clear A90
   by_cases c10:A1=true
   ·subst c10
    have H1:(if 0≤(IntKind.u64.wrap (a2)) then ((impl_cut.f a3 (shr .i64 a1 (IntKind.u64.wrap (a2)))).bind fun A0=>(some A0)) else (none))=some r:=by rw [if_pos rfl] at H;exact H
    clear H;have H:=H1;clear H1;obtain ⟨ji11,hji11⟩:∃ j_:Int,(IntKind.u64.wrap (a2))=j_:=⟨_,rfl⟩
    replace H:(if 0≤(ji11) then ((impl_cut.f a3 (shr .i64 a1 (ji11))).bind fun A0=>(some A0)) else (none))=some r:=by first|(rw [hji11] at H;exact H)|(simp only [hji11] at H ⊢;exact H)
    (try rw [hji11] at A5)
    (try rw [hji11] at A7)
    (try rw [hji11] at A9)
    by_cases c12:0≤(ji11)
    ·rw [if_pos c12] at H;have c12b0:=eq_true c12;have c12b1:decide (0≤(ji11))=true:=decide_eq_true c12;clear c12;obtain ⟨ji13,hji13⟩:∃ j_:Int,(shr .i64 a1 (ji11))=j_:=⟨_,rfl⟩
     replace H:((impl_cut.f a3 (ji13)).bind fun A0=>(some A0))=some r:=by first|(rw [hji13] at H;exact H)|(simp only [hji13] at H ⊢;exact H)
     (try rw [hji13] at A5)
     (try rw [hji13] at A7)
     (try rw [hji13] at A9)
     have hji13_:(a1 / 2 ^ min (ji11).toNat 64)=ji13:=hji13;have hji13z:(ji11)≤64→(a1 / 2 ^ (ji11).toNat)=ji13:=shr_small hji13;replace H:=ob H;obtain ⟨A0,A140,H⟩:=H;replace H:(some A0)=some r:=H;have A14:=Aside0.mk A140;clear A140;obtain rfl:=os H
     go_enter Try.func144,Try.ntmps144
     go_wp2_with (first|((with_reducible refine gate_callee (f:=165) rfl ?_);refine goesL_ (some 11) rfl rfl Try.func165 (by kernel_rfl) rfl #[.int .i64 a0,.int .i64 a1] rfl ml ?_;(with_reducible refine (impl_WordOk.calls a0 a1 true _ A5.out).mono ?_);rintro e w' ⟨rfl,⟨nd,rfl⟩⟩;refine ⟨_,rfl,?_⟩)|(go_at_call 61;(try simp only [i64_w,i32_w]);(with_reducible refine (impl_within.calls a3 1 a0 true _ A7.out).mono ?_);rintro e w' ⟨rfl,⟨nd,rfl⟩⟩)|(go_at_call 61;(try simp only [i64_w,i32_w]);(with_reducible refine (impl_within.calls a2 0 (wrap64 (a0 - a3)) true _ A9.out).mono ?_);rintro e w' ⟨rfl,⟨nd,rfl⟩⟩)|((with_reducible refine gate_callee (f:=64) rfl ?_);refine goesL_ (some 32) rfl rfl Try.func64 (by kernel_rfl) rfl #[.int .i64 a3,.int .i64 ji13] rfl (by (try simp only [List.map_toArray,List.map_cons,List.map_nil]);first|done|(simp only [hji13];rfl)|rfl|(simp only [List.length_drop,List.length_take];rfl)) ?_;(with_reducible refine (impl_cut.calls a3 ji13 A0 _ A14.out).mono ?_);rintro e w' ⟨rfl,⟨nd,rfl⟩⟩;refine ⟨_,rfl,?_⟩));go_ret;exact ⟨by first|rfl|(simp;done)|(simp only [← hji11,← hji13] <;> (first|rfl|simp))|(simp [*];done),by repeat (first|exact Drawn0.refl _|apply Drawn0.step)⟩
    ·rw [if_neg c12] at H;exact absurd H (by simp)
   ·replace c10:=Bool.eq_false_iff.mpr c10;subst c10
    have H1:(some 0)=some r:=by rw [if_neg (show ¬ (false=true) by decide)] at H;exact H
    clear H;have H:=H1;clear H1;obtain rfl:=os H
    go_enter Try.func144,Try.ntmps144
    go_wp2_with (first|((with_reducible refine gate_callee (f:=165) rfl ?_);refine goesL_ (some 11) rfl rfl Try.func165 (by kernel_rfl) rfl #[.int .i64 a0,.int .i64 a1] rfl ml ?_;(with_reducible refine (impl_WordOk.calls a0 a1 true _ A5.out).mono ?_);rintro e w' ⟨rfl,⟨nd,rfl⟩⟩;refine ⟨_,rfl,?_⟩)|(go_at_call 61;(try simp only [i64_w,i32_w]);(with_reducible refine (impl_within.calls a3 1 a0 true _ A7.out).mono ?_);rintro e w' ⟨rfl,⟨nd,rfl⟩⟩)|(go_at_call 61;(try simp only [i64_w,i32_w]);(with_reducible refine (impl_within.calls a2 0 (wrap64 (a0 - a3)) false _ A9.out).mono ?_);rintro e w' ⟨rfl,⟨nd,rfl⟩⟩));go_ret;exact ⟨e1,dn⟩
  ·replace c8:=Bool.eq_false_iff.mpr c8;subst c8
   have H1:(some 0)=some r:=by rw [if_neg (show ¬ (false=true) by decide)] at H;exact H
   clear H;have H:=H1;clear H1;obtain rfl:=os H
   go_enter Try.func144,Try.ntmps144
   go_wp2_with (first|((with_reducible refine gate_callee (f:=165) rfl ?_);refine goesL_ (some 11) rfl rfl Try.func165 (by kernel_rfl) rfl #[.int .i64 a0,.int .i64 a1] rfl ml ?_;(with_reducible refine (impl_WordOk.calls a0 a1 true _ A5.out).mono ?_);rintro e w' ⟨rfl,⟨nd,rfl⟩⟩;refine ⟨_,rfl,?_⟩)|(go_at_call 61;(try simp only [i64_w,i32_w]);(with_reducible refine (impl_within.calls a3 1 a0 false _ A7.out).mono ?_);rintro e w' ⟨rfl,⟨nd,rfl⟩⟩));go_ret;exact ⟨e1,dn⟩
 ·replace c6:=Bool.eq_false_iff.mpr c6;subst c6
  have H1:(some 0)=some r:=by rw [if_neg (show ¬ (false=true) by decide)] at H;exact H
  clear H;have H:=H1;clear H1;obtain rfl:=os H
  go_enter Try.func144,Try.ntmps144
  go_wp2_with (first|((with_reducible refine gate_callee (f:=165) rfl ?_);refine goesL_ (some 11) rfl rfl Try.func165 (by kernel_rfl) rfl #[.int .i64 a0,.int .i64 a1] rfl ml ?_;(with_reducible refine (impl_WordOk.calls a0 a1 false _ A5.out).mono ?_);rintro e w' ⟨rfl,⟨nd,rfl⟩⟩;refine ⟨_,rfl,?_⟩));go_ret;exact ⟨e1,dn⟩
def impl_Add.f (a0:Int) (a1:Int) (a2:Int):Option (Int):=(impl_two.f a0 a1 a2).bind fun A1=>(if A1=true then ((impl_cut.f a0 (wrap64 (a1 + a2))).bind fun A0=>(some A0)) else (some 0))
set_option maxHeartbeats 8000000 in
set_option maxRecDepth 100000 in
theorem impl_Add.calls (a0:Int) (a1:Int) (a2:Int) (r:Int) (w:World) (h:impl_Add.f a0 a1 a2=some r) :
  Calls Try.prog 166 #[.int .i64 a0,.int .i64 a1,.int .i64 a2] w fun e w'=>e = .returned (.int .i64 r)∧Drawn0 w w':=by
 have H:((impl_two.f a0 a1 a2).bind fun A1=>(if A1=true then ((impl_cut.f a0 (wrap64 (a1 + a2))).bind fun A0=>(some A0)) else (some 0)))=some r:=h;clear h;replace H:=ob H;obtain ⟨A1,A40,H⟩:=H;replace H:(if A1=true then ((impl_cut.f a0 (wrap64 (a1 + a2))).bind fun A0=>(some A0)) else (some 0))=some r:=H;have A4:=Aside0.mk A40;clear A40
 by_cases c5:A1=true
 ·subst c5
  have H1:((impl_cut.f a0 (wrap64 (a1 + a2))).bind fun A0=>(some A0))=some r:=by rw [if_pos rfl] at H;exact H
  clear H;have H:=H1;clear H1;replace H:=ob H;obtain ⟨A0,A60,H⟩:=H;replace H:(some A0)=some r:=H;have A6:=Aside0.mk A60;clear A60;obtain rfl:=os H
  go_enter Try.func166,Try.ntmps166
  go_wp2_with (first|((with_reducible refine gate_callee (f:=173) rfl ?_);refine goesL_ (some 10) rfl rfl Try.func173 (by kernel_rfl) rfl #[.int .i64 a0,.int .i64 a1,.int .i64 a2] rfl ml ?_;(with_reducible refine (impl_two.calls a0 a1 a2 true _ A4.out).mono ?_);rintro e w' ⟨rfl,⟨nd,rfl⟩⟩;refine ⟨_,rfl,?_⟩)|((with_reducible refine gate_callee (f:=64) rfl ?_);refine goesL_ (some 16) rfl rfl Try.func64 (by kernel_rfl) rfl #[.int .i64 a0,.int .i64 (wrap64 (a1 + a2))] rfl ml ?_;(with_reducible refine (impl_cut.calls a0 (wrap64 (a1 + a2)) A0 _ A6.out).mono ?_);rintro e w' ⟨rfl,⟨nd,rfl⟩⟩;refine ⟨_,rfl,?_⟩));go_ret;exact ⟨e1,dn⟩
 ·replace c5:=Bool.eq_false_iff.mpr c5;subst c5
  have H1:(some 0)=some r:=by rw [if_neg (show ¬ (false=true) by decide)] at H;exact H
  clear H;have H:=H1;clear H1;obtain rfl:=os H
  go_enter Try.func166,Try.ntmps166
  go_wp2_with (first|((with_reducible refine gate_callee (f:=173) rfl ?_);refine goesL_ (some 10) rfl rfl Try.func173 (by kernel_rfl) rfl #[.int .i64 a0,.int .i64 a1,.int .i64 a2] rfl ml ?_;(with_reducible refine (impl_two.calls a0 a1 a2 false _ A4.out).mono ?_);rintro e w' ⟨rfl,⟨nd,rfl⟩⟩;refine ⟨_,rfl,?_⟩));go_ret;exact ⟨e1,dn⟩
def impl_Div.f (a0:Int) (a1:Int) (a2:Int):Option (Int):=(impl_two.f a0 a1 a2).bind fun A0=>(if A0=true then (if a2=0 then (if 0≤(IntKind.u64.wrap (a0)) then (some (wrap64 ((shl .i64 1 (IntKind.u64.wrap (a0))) - 1))) else (none)) else (some (wrap64 (Int.tdiv a1 a2)))) else (some 0))
set_option maxHeartbeats 8000000 in
set_option maxRecDepth 100000 in
theorem impl_Div.calls (a0:Int) (a1:Int) (a2:Int) (r:Int) (w:World) (h:impl_Div.f a0 a1 a2=some r) :
  Calls Try.prog 169 #[.int .i64 a0,.int .i64 a1,.int .i64 a2] w fun e w'=>e = .returned (.int .i64 r)∧Drawn0 w w':=by
 have H:((impl_two.f a0 a1 a2).bind fun A0=>(if A0=true then (if a2=0 then (if 0≤(IntKind.u64.wrap (a0)) then (some (wrap64 ((shl .i64 1 (IntKind.u64.wrap (a0))) - 1))) else (none)) else (some (wrap64 (Int.tdiv a1 a2)))) else (some 0)))=some r:=h;clear h;replace H:=ob H;obtain ⟨A0,A40,H⟩:=H;replace H:(if A0=true then (if a2=0 then (if 0≤(IntKind.u64.wrap (a0)) then (some (wrap64 ((shl .i64 1 (IntKind.u64.wrap (a0))) - 1))) else (none)) else (some (wrap64 (Int.tdiv a1 a2)))) else (some 0))=some r:=H;have A4:=Aside0.mk A40;clear A40
 by_cases c5:A0=true
 ·subst c5
  have H1:(if a2=0 then (if 0≤(IntKind.u64.wrap (a0)) then (some (wrap64 ((shl .i64 1 (IntKind.u64.wrap (a0))) - 1))) else (none)) else (some (wrap64 (Int.tdiv a1 a2))))=some r:=by rw [if_pos rfl] at H;exact H
  clear H;have H:=H1;clear H1
  by_cases c6:a2=0
  ·rw [if_pos c6] at H;have c6b0:(a2 == 0)=true:=beq_iff_eq.mpr c6;have c6b1:(a2 != 0)=false:=bne_eq_false_iff_eq.mpr c6;clear c6;obtain ⟨ji7,hji7⟩:∃ j_:Int,(IntKind.u64.wrap (a0))=j_:=⟨_,rfl⟩
   replace H:(if 0≤(ji7) then (some (wrap64 ((shl .i64 1 (ji7)) - 1))) else (none))=some r:=by first|(rw [hji7] at H;exact H)|(simp only [hji7] at H ⊢;exact H)
   (try rw [hji7] at A4)
   by_cases c8:0≤(ji7)
   ·rw [if_pos c8] at H;have c8b0:=eq_true c8;have c8b1:decide (0≤(ji7))=true:=decide_eq_true c8;clear c8;obtain ⟨ji9,hji9⟩:∃ j_:Int,(shl .i64 1 (ji7))=j_:=⟨_,rfl⟩
    replace H:(some (wrap64 ((ji9) - 1)))=some r:=by first|(rw [hji9] at H;exact H)|(simp only [hji9] at H ⊢;exact H)
    (try rw [hji9] at A4)
    have hji9_:(IntKind.i64.wrap (1 * 2 ^ min (ji7).toNat 64))=ji9:=hji9;have hji9z:(ji7)≤64→(IntKind.i64.wrap (1 * 2 ^ (ji7).toNat))=ji9:=shl_small hji9
    have hji9u:(IntKind.i64.wrap (2 ^ min (ji7).toNat 64))=ji9:=by have h_:=hji9_;rw [Int.one_mul] at h_;exact h_
    have hji9v:(ji7)≤64→(IntKind.i64.wrap (2 ^ (ji7).toNat))=ji9:=fun hle_=>by have h_:=hji9z hle_;rw [Int.one_mul] at h_;exact h_
    have hji9y:(wrap64 (1 * 2 ^ min (ji7).toNat 64))=ji9:=(i64_w _).symm.trans hji9_
    have hji9x:(ji7)≤64→(wrap64 (1 * 2 ^ (ji7).toNat))=ji9:=fun h_=>(i64_w _).symm.trans (hji9z h_)
    obtain rfl:=os H
    go_enter Try.func169,Try.ntmps169
    go_wp2_with (first|((with_reducible refine gate_callee (f:=173) rfl ?_);refine goesL_ (some 11) rfl rfl Try.func173 (by kernel_rfl) rfl #[.int .i64 a0,.int .i64 a1,.int .i64 a2] rfl ml ?_;(with_reducible refine (impl_two.calls a0 a1 a2 true _ A4.out).mono ?_);rintro e w' ⟨rfl,⟨nd,rfl⟩⟩;refine ⟨_,rfl,?_⟩));go_ret;exact ⟨by first|rfl|(simp;done)|(simp only [← hji7,← hji9] <;> (first|rfl|simp))|(simp [*];done),by repeat (first|exact Drawn0.refl _|apply Drawn0.step)⟩
   ·rw [if_neg c8] at H;exact absurd H (by simp)
  ·rw [if_neg c6] at H;have c6b0:(a2 == 0)=false:=beq_eq_false_iff_ne.mpr c6;have c6b1:(a2 != 0)=true:=bne_iff_ne.mpr c6;obtain rfl:=os H
   go_enter Try.func169,Try.ntmps169
   go_wp2_with (first|((with_reducible refine gate_callee (f:=173) rfl ?_);refine goesL_ (some 11) rfl rfl Try.func173 (by kernel_rfl) rfl #[.int .i64 a0,.int .i64 a1,.int .i64 a2] rfl ml ?_;(with_reducible refine (impl_two.calls a0 a1 a2 true _ A4.out).mono ?_);rintro e w' ⟨rfl,⟨nd,rfl⟩⟩;refine ⟨_,rfl,?_⟩));go_ret;exact ⟨e1,dn⟩
 ·replace c5:=Bool.eq_false_iff.mpr c5;subst c5
  have H1:(some 0)=some r:=by rw [if_neg (show ¬ (false=true) by decide)] at H;exact H
  clear H;have H:=H1;clear H1;obtain rfl:=os H
  go_enter Try.func169,Try.ntmps169
  go_wp2_with (first|((with_reducible refine gate_callee (f:=173) rfl ?_);refine goesL_ (some 11) rfl rfl Try.func173 (by kernel_rfl) rfl #[.int .i64 a0,.int .i64 a1,.int .i64 a2] rfl ml ?_;(with_reducible refine (impl_two.calls a0 a1 a2 false _ A4.out).mono ?_);rintro e w' ⟨rfl,⟨nd,rfl⟩⟩;refine ⟨_,rfl,?_⟩));go_ret;exact ⟨e1,dn⟩
def impl_Mul.f (a0:Int) (a1:Int) (a2:Int):Option (Int):=(impl_two.f a0 a1 a2).bind fun A1=>(if A1=true then ((impl_cut.f a0 (wrap64 (a1 * a2))).bind fun A0=>(some A0)) else (some 0))
set_option maxHeartbeats 8000000 in
set_option maxRecDepth 100000 in
theorem impl_Mul.calls (a0:Int) (a1:Int) (a2:Int) (r:Int) (w:World) (h:impl_Mul.f a0 a1 a2=some r) :
  Calls Try.prog 168 #[.int .i64 a0,.int .i64 a1,.int .i64 a2] w fun e w'=>e = .returned (.int .i64 r)∧Drawn0 w w':=by
 have H:((impl_two.f a0 a1 a2).bind fun A1=>(if A1=true then ((impl_cut.f a0 (wrap64 (a1 * a2))).bind fun A0=>(some A0)) else (some 0)))=some r:=h;clear h;replace H:=ob H;obtain ⟨A1,A40,H⟩:=H;replace H:(if A1=true then ((impl_cut.f a0 (wrap64 (a1 * a2))).bind fun A0=>(some A0)) else (some 0))=some r:=H;have A4:=Aside0.mk A40;clear A40
 by_cases c5:A1=true
 ·subst c5
  have H1:((impl_cut.f a0 (wrap64 (a1 * a2))).bind fun A0=>(some A0))=some r:=by rw [if_pos rfl] at H;exact H
  clear H;have H:=H1;clear H1;replace H:=ob H;obtain ⟨A0,A60,H⟩:=H;replace H:(some A0)=some r:=H;have A6:=Aside0.mk A60;clear A60;obtain rfl:=os H
  go_enter Try.func168,Try.ntmps168
  go_wp2_with (first|((with_reducible refine gate_callee (f:=173) rfl ?_);refine goesL_ (some 10) rfl rfl Try.func173 (by kernel_rfl) rfl #[.int .i64 a0,.int .i64 a1,.int .i64 a2] rfl ml ?_;(with_reducible refine (impl_two.calls a0 a1 a2 true _ A4.out).mono ?_);rintro e w' ⟨rfl,⟨nd,rfl⟩⟩;refine ⟨_,rfl,?_⟩)|((with_reducible refine gate_callee (f:=64) rfl ?_);refine goesL_ (some 16) rfl rfl Try.func64 (by kernel_rfl) rfl #[.int .i64 a0,.int .i64 (wrap64 (a1 * a2))] rfl ml ?_;(with_reducible refine (impl_cut.calls a0 (wrap64 (a1 * a2)) A0 _ A6.out).mono ?_);rintro e w' ⟨rfl,⟨nd,rfl⟩⟩;refine ⟨_,rfl,?_⟩));go_ret;exact ⟨e1,dn⟩
 ·replace c5:=Bool.eq_false_iff.mpr c5;subst c5
  have H1:(some 0)=some r:=by rw [if_neg (show ¬ (false=true) by decide)] at H;exact H
  clear H;have H:=H1;clear H1;obtain rfl:=os H
  go_enter Try.func168,Try.ntmps168
  go_wp2_with (first|((with_reducible refine gate_callee (f:=173) rfl ?_);refine goesL_ (some 10) rfl rfl Try.func173 (by kernel_rfl) rfl #[.int .i64 a0,.int .i64 a1,.int .i64 a2] rfl ml ?_;(with_reducible refine (impl_two.calls a0 a1 a2 false _ A4.out).mono ?_);rintro e w' ⟨rfl,⟨nd,rfl⟩⟩;refine ⟨_,rfl,?_⟩));go_ret;exact ⟨e1,dn⟩
def impl_Rem.f (a0:Int) (a1:Int) (a2:Int):Option (Int):=(impl_two.f a0 a1 a2).bind fun A0=>(if A0=true then (if a2=0 then (some a1) else (some (Int.tmod a1 a2))) else (some 0))
set_option maxHeartbeats 8000000 in
set_option maxRecDepth 100000 in
theorem impl_Rem.calls (a0:Int) (a1:Int) (a2:Int) (r:Int) (w:World) (h:impl_Rem.f a0 a1 a2=some r) :
  Calls Try.prog 170 #[.int .i64 a0,.int .i64 a1,.int .i64 a2] w fun e w'=>e = .returned (.int .i64 r)∧Drawn0 w w':=by
 have H:((impl_two.f a0 a1 a2).bind fun A0=>(if A0=true then (if a2=0 then (some a1) else (some (Int.tmod a1 a2))) else (some 0)))=some r:=h;clear h;replace H:=ob H;obtain ⟨A0,A40,H⟩:=H;replace H:(if A0=true then (if a2=0 then (some a1) else (some (Int.tmod a1 a2))) else (some 0))=some r:=H;have A4:=Aside0.mk A40;clear A40
 by_cases c5:A0=true
 ·subst c5
  have H1:(if a2=0 then (some a1) else (some (Int.tmod a1 a2)))=some r:=by rw [if_pos rfl] at H;exact H
  clear H;have H:=H1;clear H1
  by_cases c6:a2=0
  ·rw [if_pos c6] at H;have c6b0:(a2 == 0)=true:=beq_iff_eq.mpr c6;have c6b1:(a2 != 0)=false:=bne_eq_false_iff_eq.mpr c6;clear c6;obtain rfl:=os H
   go_enter Try.func170,Try.ntmps170
   go_wp2_with (first|((with_reducible refine gate_callee (f:=173) rfl ?_);refine goesL_ (some 11) rfl rfl Try.func173 (by kernel_rfl) rfl #[.int .i64 a0,.int .i64 a1,.int .i64 a2] rfl ml ?_;(with_reducible refine (impl_two.calls a0 a1 a2 true _ A4.out).mono ?_);rintro e w' ⟨rfl,⟨nd,rfl⟩⟩;refine ⟨_,rfl,?_⟩));go_ret;exact ⟨e1,dn⟩
  ·rw [if_neg c6] at H;have c6b0:(a2 == 0)=false:=beq_eq_false_iff_ne.mpr c6;have c6b1:(a2 != 0)=true:=bne_iff_ne.mpr c6;obtain rfl:=os H
   go_enter Try.func170,Try.ntmps170
   go_wp2_with (first|((with_reducible refine gate_callee (f:=173) rfl ?_);refine goesL_ (some 11) rfl rfl Try.func173 (by kernel_rfl) rfl #[.int .i64 a0,.int .i64 a1,.int .i64 a2] rfl ml ?_;(with_reducible refine (impl_two.calls a0 a1 a2 true _ A4.out).mono ?_);rintro e w' ⟨rfl,⟨nd,rfl⟩⟩;refine ⟨_,rfl,?_⟩));go_ret;exact ⟨e1,dn⟩
 ·replace c5:=Bool.eq_false_iff.mpr c5;subst c5
  have H1:(some 0)=some r:=by rw [if_neg (show ¬ (false=true) by decide)] at H;exact H
  clear H;have H:=H1;clear H1;obtain rfl:=os H
  go_enter Try.func170,Try.ntmps170
  go_wp2_with (first|((with_reducible refine gate_callee (f:=173) rfl ?_);refine goesL_ (some 11) rfl rfl Try.func173 (by kernel_rfl) rfl #[.int .i64 a0,.int .i64 a1,.int .i64 a2] rfl ml ?_;(with_reducible refine (impl_two.calls a0 a1 a2 false _ A4.out).mono ?_);rintro e w' ⟨rfl,⟨nd,rfl⟩⟩;refine ⟨_,rfl,?_⟩));go_ret;exact ⟨e1,dn⟩
def impl_Shl.f (a0:Int) (a1:Int) (a2:Int):Option (Int):=(impl_two.f a0 a1 a2).bind fun A1=>(if A1=true then (if a2 ≥ a0 then (some 0) else (if 0≤(IntKind.u64.wrap (a2)) then ((impl_cut.f a0 (shl .i64 a1 (IntKind.u64.wrap (a2)))).bind fun A0=>(some A0)) else (none))) else (some 0))
set_option maxHeartbeats 8000000 in
set_option maxRecDepth 100000 in
theorem impl_Shl.calls (a0:Int) (a1:Int) (a2:Int) (r:Int) (w:World) (h:impl_Shl.f a0 a1 a2=some r) :
  Calls Try.prog 171 #[.int .i64 a0,.int .i64 a1,.int .i64 a2] w fun e w'=>e = .returned (.int .i64 r)∧Drawn0 w w':=by
 have H:((impl_two.f a0 a1 a2).bind fun A1=>(if A1=true then (if a2 ≥ a0 then (some 0) else (if 0≤(IntKind.u64.wrap (a2)) then ((impl_cut.f a0 (shl .i64 a1 (IntKind.u64.wrap (a2)))).bind fun A0=>(some A0)) else (none))) else (some 0)))=some r:=h;clear h;replace H:=ob H;obtain ⟨A1,A40,H⟩:=H;replace H:(if A1=true then (if a2 ≥ a0 then (some 0) else (if 0≤(IntKind.u64.wrap (a2)) then ((impl_cut.f a0 (shl .i64 a1 (IntKind.u64.wrap (a2)))).bind fun A0=>(some A0)) else (none))) else (some 0))=some r:=H;have A4:=Aside0.mk A40;clear A40
 by_cases c5:A1=true
 ·subst c5
  have H1:(if a2 ≥ a0 then (some 0) else (if 0≤(IntKind.u64.wrap (a2)) then ((impl_cut.f a0 (shl .i64 a1 (IntKind.u64.wrap (a2)))).bind fun A0=>(some A0)) else (none)))=some r:=by rw [if_pos rfl] at H;exact H
  clear H;have H:=H1;clear H1
  by_cases c6:a2 ≥ a0
  ·rw [if_pos c6] at H;have c6b0:decide (a0≤a2)=true:=decide_eq_true c6;clear c6;obtain rfl:=os H
   go_enter Try.func171,Try.ntmps171
   go_wp2_with (first|((with_reducible refine gate_callee (f:=173) rfl ?_);refine goesL_ (some 10) rfl rfl Try.func173 (by kernel_rfl) rfl #[.int .i64 a0,.int .i64 a1,.int .i64 a2] rfl ml ?_;(with_reducible refine (impl_two.calls a0 a1 a2 true _ A4.out).mono ?_);rintro e w' ⟨rfl,⟨nd,rfl⟩⟩;refine ⟨_,rfl,?_⟩));go_ret;exact ⟨e1,dn⟩
  ·rw [if_neg c6] at H;have c6b0:decide (a0≤a2)=false:=decide_eq_false c6;clear c6;obtain ⟨ji7,hji7⟩:∃ j_:Int,(IntKind.u64.wrap (a2))=j_:=⟨_,rfl⟩
   replace H:(if 0≤(ji7) then ((impl_cut.f a0 (shl .i64 a1 (ji7))).bind fun A0=>(some A0)) else (none))=some r:=by first|(rw [hji7] at H;exact H)|(simp only [hji7] at H ⊢;exact H)
   (try rw [hji7] at A4)
   by_cases c8:0≤(ji7)
   ·rw [if_pos c8] at H;have c8b0:=eq_true c8;have c8b1:decide (0≤(ji7))=true:=decide_eq_true c8;clear c8;obtain ⟨ji9,hji9⟩:∃ j_:Int,(shl .i64 a1 (ji7))=j_:=⟨_,rfl⟩
    replace H:((impl_cut.f a0 (ji9)).bind fun A0=>(some A0))=some r:=by first|(rw [hji9] at H;exact H)|(simp only [hji9] at H ⊢;exact H)
    (try rw [hji9] at A4)
    have hji9_:(IntKind.i64.wrap (a1 * 2 ^ min (ji7).toNat 64))=ji9:=hji9;have hji9z:(ji7)≤64→(IntKind.i64.wrap (a1 * 2 ^ (ji7).toNat))=ji9:=shl_small hji9;have hji9y:(wrap64 (a1 * 2 ^ min (ji7).toNat 64))=ji9:=(i64_w _).symm.trans hji9_
    have hji9x:(ji7)≤64→(wrap64 (a1 * 2 ^ (ji7).toNat))=ji9:=fun h_=>(i64_w _).symm.trans (hji9z h_)
    replace H:=ob H;obtain ⟨A0,A100,H⟩:=H;replace H:(some A0)=some r:=H;have A10:=Aside0.mk A100;clear A100;obtain rfl:=os H
    go_enter Try.func171,Try.ntmps171
    go_wp2_with (first|((with_reducible refine gate_callee (f:=173) rfl ?_);refine goesL_ (some 10) rfl rfl Try.func173 (by kernel_rfl) rfl #[.int .i64 a0,.int .i64 a1,.int .i64 a2] rfl ml ?_;(with_reducible refine (impl_two.calls a0 a1 a2 true _ A4.out).mono ?_);rintro e w' ⟨rfl,⟨nd,rfl⟩⟩;refine ⟨_,rfl,?_⟩)|((with_reducible refine gate_callee (f:=64) rfl ?_);refine goesL_ (some 22) rfl rfl Try.func64 (by kernel_rfl) rfl #[.int .i64 a0,.int .i64 ji9] rfl (by (try simp only [List.map_toArray,List.map_cons,List.map_nil]);first|done|(simp only [hji9];rfl)|rfl|(simp only [List.length_drop,List.length_take];rfl)) ?_;(with_reducible refine (impl_cut.calls a0 ji9 A0 _ A10.out).mono ?_);rintro e w' ⟨rfl,⟨nd,rfl⟩⟩;refine ⟨_,rfl,?_⟩));go_ret;exact ⟨by first|rfl|(simp;done)|(simp only [← hji7,← hji9] <;> (first|rfl|simp))|(simp [*];done),by repeat (first|exact Drawn0.refl _|apply Drawn0.step)⟩
   ·rw [if_neg c8] at H;exact absurd H (by simp)
 ·replace c5:=Bool.eq_false_iff.mpr c5;subst c5
  have H1:(some 0)=some r:=by rw [if_neg (show ¬ (false=true) by decide)] at H;exact H
  clear H;have H:=H1;clear H1;obtain rfl:=os H
  go_enter Try.func171,Try.ntmps171
  go_wp2_with (first|((with_reducible refine gate_callee (f:=173) rfl ?_);refine goesL_ (some 10) rfl rfl Try.func173 (by kernel_rfl) rfl #[.int .i64 a0,.int .i64 a1,.int .i64 a2] rfl ml ?_;(with_reducible refine (impl_two.calls a0 a1 a2 false _ A4.out).mono ?_);rintro e w' ⟨rfl,⟨nd,rfl⟩⟩;refine ⟨_,rfl,?_⟩));go_ret;exact ⟨e1,dn⟩
def impl_Shr.f (a0:Int) (a1:Int) (a2:Int):Option (Int):=(impl_two.f a0 a1 a2).bind fun A0=>(if A0=true then (if a2 ≥ a0 then (some 0) else (if 0≤(IntKind.u64.wrap (a2)) then (some (shr .i64 a1 (IntKind.u64.wrap (a2)))) else (none))) else (some 0))
set_option maxHeartbeats 8000000 in
set_option maxRecDepth 100000 in
theorem impl_Shr.calls (a0:Int) (a1:Int) (a2:Int) (r:Int) (w:World) (h:impl_Shr.f a0 a1 a2=some r) :
  Calls Try.prog 172 #[.int .i64 a0,.int .i64 a1,.int .i64 a2] w fun e w'=>e = .returned (.int .i64 r)∧Drawn0 w w':=by
 have H:((impl_two.f a0 a1 a2).bind fun A0=>(if A0=true then (if a2 ≥ a0 then (some 0) else (if 0≤(IntKind.u64.wrap (a2)) then (some (shr .i64 a1 (IntKind.u64.wrap (a2)))) else (none))) else (some 0)))=some r:=h;clear h;replace H:=ob H;obtain ⟨A0,A40,H⟩:=H;replace H:(if A0=true then (if a2 ≥ a0 then (some 0) else (if 0≤(IntKind.u64.wrap (a2)) then (some (shr .i64 a1 (IntKind.u64.wrap (a2)))) else (none))) else (some 0))=some r:=H;have A4:=Aside0.mk A40;clear A40
 by_cases c5:A0=true
 ·subst c5
  have H1:(if a2 ≥ a0 then (some 0) else (if 0≤(IntKind.u64.wrap (a2)) then (some (shr .i64 a1 (IntKind.u64.wrap (a2)))) else (none)))=some r:=by rw [if_pos rfl] at H;exact H
  clear H;have H:=H1;clear H1
  by_cases c6:a2 ≥ a0
  ·rw [if_pos c6] at H;have c6b0:decide (a0≤a2)=true:=decide_eq_true c6;clear c6;obtain rfl:=os H
   go_enter Try.func172,Try.ntmps172
   go_wp2_with (first|((with_reducible refine gate_callee (f:=173) rfl ?_);refine goesL_ (some 10) rfl rfl Try.func173 (by kernel_rfl) rfl #[.int .i64 a0,.int .i64 a1,.int .i64 a2] rfl ml ?_;(with_reducible refine (impl_two.calls a0 a1 a2 true _ A4.out).mono ?_);rintro e w' ⟨rfl,⟨nd,rfl⟩⟩;refine ⟨_,rfl,?_⟩));go_ret;exact ⟨e1,dn⟩
  ·rw [if_neg c6] at H;have c6b0:decide (a0≤a2)=false:=decide_eq_false c6;clear c6;obtain ⟨ji7,hji7⟩:∃ j_:Int,(IntKind.u64.wrap (a2))=j_:=⟨_,rfl⟩
   replace H:(if 0≤(ji7) then (some (shr .i64 a1 (ji7))) else (none))=some r:=by first|(rw [hji7] at H;exact H)|(simp only [hji7] at H ⊢;exact H)
   (try rw [hji7] at A4)
   by_cases c8:0≤(ji7)
   ·rw [if_pos c8] at H;have c8b0:=eq_true c8;have c8b1:decide (0≤(ji7))=true:=decide_eq_true c8;clear c8;obtain ⟨ji9,hji9⟩:∃ j_:Int,(shr .i64 a1 (ji7))=j_:=⟨_,rfl⟩
    replace H:(some ji9)=some r:=by first|(rw [hji9] at H;exact H)|(simp only [hji9] at H ⊢;exact H)
    (try rw [hji9] at A4)
    have hji9_:(a1 / 2 ^ min (ji7).toNat 64)=ji9:=hji9;have hji9z:(ji7)≤64→(a1 / 2 ^ (ji7).toNat)=ji9:=shr_small hji9;obtain rfl:=os H
    go_enter Try.func172,Try.ntmps172
    go_wp2_with (first|((with_reducible refine gate_callee (f:=173) rfl ?_);refine goesL_ (some 10) rfl rfl Try.func173 (by kernel_rfl) rfl #[.int .i64 a0,.int .i64 a1,.int .i64 a2] rfl ml ?_;(with_reducible refine (impl_two.calls a0 a1 a2 true _ A4.out).mono ?_);rintro e w' ⟨rfl,⟨nd,rfl⟩⟩;refine ⟨_,rfl,?_⟩));go_ret;exact ⟨by first|rfl|(simp;done)|(simp only [← hji7,← hji9] <;> (first|rfl|simp))|(simp [*];done),by repeat (first|exact Drawn0.refl _|apply Drawn0.step)⟩
   ·rw [if_neg c8] at H;exact absurd H (by simp)
 ·replace c5:=Bool.eq_false_iff.mpr c5;subst c5
  have H1:(some 0)=some r:=by rw [if_neg (show ¬ (false=true) by decide)] at H;exact H
  clear H;have H:=H1;clear H1;obtain rfl:=os H
  go_enter Try.func172,Try.ntmps172
  go_wp2_with (first|((with_reducible refine gate_callee (f:=173) rfl ?_);refine goesL_ (some 10) rfl rfl Try.func173 (by kernel_rfl) rfl #[.int .i64 a0,.int .i64 a1,.int .i64 a2] rfl ml ?_;(with_reducible refine (impl_two.calls a0 a1 a2 false _ A4.out).mono ?_);rintro e w' ⟨rfl,⟨nd,rfl⟩⟩;refine ⟨_,rfl,?_⟩));go_ret;exact ⟨e1,dn⟩
def impl_Sub.f (a0:Int) (a1:Int) (a2:Int):Option (Int):=(impl_two.f a0 a1 a2).bind fun A1=>(if A1=true then ((impl_cut.f a0 (wrap64 (a1 - a2))).bind fun A0=>(some A0)) else (some 0))
set_option maxHeartbeats 8000000 in
set_option maxRecDepth 100000 in
theorem impl_Sub.calls (a0:Int) (a1:Int) (a2:Int) (r:Int) (w:World) (h:impl_Sub.f a0 a1 a2=some r) :
  Calls Try.prog 167 #[.int .i64 a0,.int .i64 a1,.int .i64 a2] w fun e w'=>e = .returned (.int .i64 r)∧Drawn0 w w':=by
 have H:((impl_two.f a0 a1 a2).bind fun A1=>(if A1=true then ((impl_cut.f a0 (wrap64 (a1 - a2))).bind fun A0=>(some A0)) else (some 0)))=some r:=h;clear h;replace H:=ob H;obtain ⟨A1,A40,H⟩:=H;replace H:(if A1=true then ((impl_cut.f a0 (wrap64 (a1 - a2))).bind fun A0=>(some A0)) else (some 0))=some r:=H;have A4:=Aside0.mk A40;clear A40
 by_cases c5:A1=true
 ·subst c5
  have H1:((impl_cut.f a0 (wrap64 (a1 - a2))).bind fun A0=>(some A0))=some r:=by rw [if_pos rfl] at H;exact H
  clear H;have H:=H1;clear H1;replace H:=ob H;obtain ⟨A0,A60,H⟩:=H;replace H:(some A0)=some r:=H;have A6:=Aside0.mk A60;clear A60;obtain rfl:=os H
  go_enter Try.func167,Try.ntmps167
  go_wp2_with (first|((with_reducible refine gate_callee (f:=173) rfl ?_);refine goesL_ (some 10) rfl rfl Try.func173 (by kernel_rfl) rfl #[.int .i64 a0,.int .i64 a1,.int .i64 a2] rfl ml ?_;(with_reducible refine (impl_two.calls a0 a1 a2 true _ A4.out).mono ?_);rintro e w' ⟨rfl,⟨nd,rfl⟩⟩;refine ⟨_,rfl,?_⟩)|((with_reducible refine gate_callee (f:=64) rfl ?_);refine goesL_ (some 16) rfl rfl Try.func64 (by kernel_rfl) rfl #[.int .i64 a0,.int .i64 (wrap64 (a1 - a2))] rfl ml ?_;(with_reducible refine (impl_cut.calls a0 (wrap64 (a1 - a2)) A0 _ A6.out).mono ?_);rintro e w' ⟨rfl,⟨nd,rfl⟩⟩;refine ⟨_,rfl,?_⟩));go_ret;exact ⟨e1,dn⟩
 ·replace c5:=Bool.eq_false_iff.mpr c5;subst c5
  have H1:(some 0)=some r:=by rw [if_neg (show ¬ (false=true) by decide)] at H;exact H
  clear H;have H:=H1;clear H1;obtain rfl:=os H
  go_enter Try.func167,Try.ntmps167
  go_wp2_with (first|((with_reducible refine gate_callee (f:=173) rfl ?_);refine goesL_ (some 10) rfl rfl Try.func173 (by kernel_rfl) rfl #[.int .i64 a0,.int .i64 a1,.int .i64 a2] rfl ml ?_;(with_reducible refine (impl_two.calls a0 a1 a2 false _ A4.out).mono ?_);rintro e w' ⟨rfl,⟨nd,rfl⟩⟩;refine ⟨_,rfl,?_⟩));go_ret;exact ⟨e1,dn⟩
def impl_binary.f (a0:Int) (a1:Int) (a2:Int) (a3:Int):Option (Int):=if a0=3 then (some (Go.bits .and .i64 a2 a3)) else (if a0=4 then (some (Go.bits .or .i64 a2 a3)) else (if a0=5 then (some (Go.bits .xor .i64 a2 a3)) else (if a0=6 then ((impl_Add.f a1 a2 a3).bind fun A0=>(some A0)) else (if a0=7 then ((impl_Sub.f a1 a2 a3).bind fun A1=>(some A1)) else (if a0=8 then ((impl_Mul.f a1 a2 a3).bind fun A2=>(some A2)) else (if a0=9 then ((impl_Div.f a1 a2 a3).bind fun A3=>(some A3)) else (if a0=10 then ((impl_Rem.f a1 a2 a3).bind fun A4=>(some A4)) else (if a0=11 then ((impl_Shl.f a1 a2 a3).bind fun A5=>(some A5)) else ((impl_Shr.f a1 a2 a3).bind fun A6=>(some A6))))))))))
set_option maxHeartbeats 8000000 in
set_option maxRecDepth 100000 in
theorem impl_binary.calls (a0:Int) (a1:Int) (a2:Int) (a3:Int) (r:Int) (w:World) (h:impl_binary.f a0 a1 a2 a3=some r) :
  Calls Try.prog 141 #[.int .i64 a0,.int .i64 a1,.int .i64 a2,.int .i64 a3] w fun e w'=>e = .returned (.int .i64 r)∧Drawn0 w w':=by
 have H:(if a0=3 then (some (Go.bits .and .i64 a2 a3)) else (if a0=4 then (some (Go.bits .or .i64 a2 a3)) else (if a0=5 then (some (Go.bits .xor .i64 a2 a3)) else (if a0=6 then ((impl_Add.f a1 a2 a3).bind fun A0=>(some A0)) else (if a0=7 then ((impl_Sub.f a1 a2 a3).bind fun A1=>(some A1)) else (if a0=8 then ((impl_Mul.f a1 a2 a3).bind fun A2=>(some A2)) else (if a0=9 then ((impl_Div.f a1 a2 a3).bind fun A3=>(some A3)) else (if a0=10 then ((impl_Rem.f a1 a2 a3).bind fun A4=>(some A4)) else (if a0=11 then ((impl_Shl.f a1 a2 a3).bind fun A5=>(some A5)) else ((impl_Shr.f a1 a2 a3).bind fun A6=>(some A6)))))))))))=some r:=h;clear h
 by_cases c5:a0=3
 ·rw [if_pos c5] at H;have c5b0:(a0 == 3)=true:=beq_iff_eq.mpr c5;have c5b1:(a0 != 3)=false:=bne_eq_false_iff_eq.mpr c5;clear c5;obtain rfl:=os H
  go_enter Try.func141,Try.ntmps141
  go_wp2;go_ret;exact ⟨e1,dn⟩
 ·rw [if_neg c5] at H;have c5b0:(a0 == 3)=false:=beq_eq_false_iff_ne.mpr c5;have c5b1:(a0 != 3)=true:=bne_iff_ne.mpr c5
  by_cases c6:a0=4
  ·rw [if_pos c6] at H;have c6b0:(a0 == 4)=true:=beq_iff_eq.mpr c6;have c6b1:(a0 != 4)=false:=bne_eq_false_iff_eq.mpr c6;clear c6;obtain rfl:=os H
   go_enter Try.func141,Try.ntmps141
   go_wp2;go_ret;exact ⟨e1,dn⟩
  ·rw [if_neg c6] at H;have c6b0:(a0 == 4)=false:=beq_eq_false_iff_ne.mpr c6;have c6b1:(a0 != 4)=true:=bne_iff_ne.mpr c6
   by_cases c7:a0=5
   ·rw [if_pos c7] at H;have c7b0:(a0 == 5)=true:=beq_iff_eq.mpr c7;have c7b1:(a0 != 5)=false:=bne_eq_false_iff_eq.mpr c7;clear c7;obtain rfl:=os H
    go_enter Try.func141,Try.ntmps141
    go_wp2;go_ret;exact ⟨e1,dn⟩
   ·rw [if_neg c7] at H;have c7b0:(a0 == 5)=false:=beq_eq_false_iff_ne.mpr c7;have c7b1:(a0 != 5)=true:=bne_iff_ne.mpr c7
    by_cases c8:a0=6
    ·rw [if_pos c8] at H;have c8b0:(a0 == 6)=true:=beq_iff_eq.mpr c8;have c8b1:(a0 != 6)=false:=bne_eq_false_iff_eq.mpr c8;clear c8;replace H:=ob H;obtain ⟨A0,A90,H⟩:=H;replace H:(some A0)=some r:=H;have A9:=Aside0.mk A90;clear A90;obtain rfl:=os H
     go_enter Try.func141,Try.ntmps141
     go_wp2_with (first|((with_reducible refine gate_callee (f:=166) rfl ?_);refine goesL_ (some 30) rfl rfl Try.func166 (by kernel_rfl) rfl #[.int .i64 a1,.int .i64 a2,.int .i64 a3] rfl ml ?_;(with_reducible refine (impl_Add.calls a1 a2 a3 A0 _ A9.out).mono ?_);rintro e w' ⟨rfl,⟨nd,rfl⟩⟩;refine ⟨_,rfl,?_⟩));go_ret;exact ⟨e1,dn⟩
    ·rw [if_neg c8] at H;have c8b0:(a0 == 6)=false:=beq_eq_false_iff_ne.mpr c8;have c8b1:(a0 != 6)=true:=bne_iff_ne.mpr c8
     by_cases c10:a0=7
     ·rw [if_pos c10] at H;have c10b0:(a0 == 7)=true:=beq_iff_eq.mpr c10;have c10b1:(a0 != 7)=false:=bne_eq_false_iff_eq.mpr c10;clear c10;replace H:=ob H;obtain ⟨A1,A110,H⟩:=H;replace H:(some A1)=some r:=H;have A11:=Aside0.mk A110;clear A110;obtain rfl:=os H
      go_enter Try.func141,Try.ntmps141
      go_wp2_with (first|((with_reducible refine gate_callee (f:=167) rfl ?_);refine goesL_ (some 36) rfl rfl Try.func167 (by kernel_rfl) rfl #[.int .i64 a1,.int .i64 a2,.int .i64 a3] rfl ml ?_;(with_reducible refine (impl_Sub.calls a1 a2 a3 A1 _ A11.out).mono ?_);rintro e w' ⟨rfl,⟨nd,rfl⟩⟩;refine ⟨_,rfl,?_⟩));go_ret;exact ⟨e1,dn⟩
     ·rw [if_neg c10] at H;have c10b0:(a0 == 7)=false:=beq_eq_false_iff_ne.mpr c10;have c10b1:(a0 != 7)=true:=bne_iff_ne.mpr c10
      by_cases c12:a0=8
      ·rw [if_pos c12] at H;have c12b0:(a0 == 8)=true:=beq_iff_eq.mpr c12;have c12b1:(a0 != 8)=false:=bne_eq_false_iff_eq.mpr c12;clear c12;replace H:=ob H;obtain ⟨A2,A130,H⟩:=H;replace H:(some A2)=some r:=H;have A13:=Aside0.mk A130;clear A130;obtain rfl:=os H
       go_enter Try.func141,Try.ntmps141
       go_wp2_with (first|((with_reducible refine gate_callee (f:=168) rfl ?_);refine goesL_ (some 42) rfl rfl Try.func168 (by kernel_rfl) rfl #[.int .i64 a1,.int .i64 a2,.int .i64 a3] rfl ml ?_;(with_reducible refine (impl_Mul.calls a1 a2 a3 A2 _ A13.out).mono ?_);rintro e w' ⟨rfl,⟨nd,rfl⟩⟩;refine ⟨_,rfl,?_⟩));go_ret;exact ⟨e1,dn⟩
      ·rw [if_neg c12] at H;have c12b0:(a0 == 8)=false:=beq_eq_false_iff_ne.mpr c12;have c12b1:(a0 != 8)=true:=bne_iff_ne.mpr c12
       by_cases c14:a0=9
       ·rw [if_pos c14] at H;have c14b0:(a0 == 9)=true:=beq_iff_eq.mpr c14;have c14b1:(a0 != 9)=false:=bne_eq_false_iff_eq.mpr c14;clear c14;replace H:=ob H;obtain ⟨A3,A150,H⟩:=H;replace H:(some A3)=some r:=H;have A15:=Aside0.mk A150;clear A150;obtain rfl:=os H
        go_enter Try.func141,Try.ntmps141
        go_wp2_with (first|((with_reducible refine gate_callee (f:=169) rfl ?_);refine goesL_ (some 48) rfl rfl Try.func169 (by kernel_rfl) rfl #[.int .i64 a1,.int .i64 a2,.int .i64 a3] rfl ml ?_;(with_reducible refine (impl_Div.calls a1 a2 a3 A3 _ A15.out).mono ?_);rintro e w' ⟨rfl,⟨nd,rfl⟩⟩;refine ⟨_,rfl,?_⟩));go_ret;exact ⟨e1,dn⟩
       ·rw [if_neg c14] at H;have c14b0:(a0 == 9)=false:=beq_eq_false_iff_ne.mpr c14;have c14b1:(a0 != 9)=true:=bne_iff_ne.mpr c14
        by_cases c16:a0=10
        ·rw [if_pos c16] at H;have c16b0:(a0 == 10)=true:=beq_iff_eq.mpr c16;have c16b1:(a0 != 10)=false:=bne_eq_false_iff_eq.mpr c16;clear c16;replace H:=ob H;obtain ⟨A4,A170,H⟩:=H;replace H:(some A4)=some r:=H;have A17:=Aside0.mk A170;clear A170;obtain rfl:=os H
         go_enter Try.func141,Try.ntmps141
         go_wp2_with (first|((with_reducible refine gate_callee (f:=170) rfl ?_);refine goesL_ (some 54) rfl rfl Try.func170 (by kernel_rfl) rfl #[.int .i64 a1,.int .i64 a2,.int .i64 a3] rfl ml ?_;(with_reducible refine (impl_Rem.calls a1 a2 a3 A4 _ A17.out).mono ?_);rintro e w' ⟨rfl,⟨nd,rfl⟩⟩;refine ⟨_,rfl,?_⟩));go_ret;exact ⟨e1,dn⟩
        ·rw [if_neg c16] at H;have c16b0:(a0 == 10)=false:=beq_eq_false_iff_ne.mpr c16;have c16b1:(a0 != 10)=true:=bne_iff_ne.mpr c16
         by_cases c18:a0=11
         ·rw [if_pos c18] at H;have c18b0:(a0 == 11)=true:=beq_iff_eq.mpr c18;have c18b1:(a0 != 11)=false:=bne_eq_false_iff_eq.mpr c18;clear c18;replace H:=ob H;obtain ⟨A5,A190,H⟩:=H;replace H:(some A5)=some r:=H;have A19:=Aside0.mk A190;clear A190;obtain rfl:=os H
          go_enter Try.func141,Try.ntmps141
          go_wp2_with (first|((with_reducible refine gate_callee (f:=171) rfl ?_);refine goesL_ (some 60) rfl rfl Try.func171 (by kernel_rfl) rfl #[.int .i64 a1,.int .i64 a2,.int .i64 a3] rfl ml ?_;(with_reducible refine (impl_Shl.calls a1 a2 a3 A5 _ A19.out).mono ?_);rintro e w' ⟨rfl,⟨nd,rfl⟩⟩;refine ⟨_,rfl,?_⟩));go_ret;exact ⟨e1,dn⟩
         ·rw [if_neg c18] at H;have c18b0:(a0 == 11)=false:=beq_eq_false_iff_ne.mpr c18;have c18b1:(a0 != 11)=true:=bne_iff_ne.mpr c18;replace H:=ob H;obtain ⟨A6,A200,H⟩:=H;replace H:(some A6)=some r:=H;have A20:=Aside0.mk A200;clear A200;obtain rfl:=os H
          go_enter Try.func141,Try.ntmps141
          go_wp2_with (first|((with_reducible refine gate_callee (f:=172) rfl ?_);refine goesL_ (some 64) rfl rfl Try.func172 (by kernel_rfl) rfl #[.int .i64 a1,.int .i64 a2,.int .i64 a3] rfl ml ?_;(with_reducible refine (impl_Shr.calls a1 a2 a3 A6 _ A20.out).mono ?_);rintro e w' ⟨rfl,⟨nd,rfl⟩⟩;refine ⟨_,rfl,?_⟩));go_ret;exact ⟨e1,dn⟩
def impl_isByte.f (a0:Int):Option (Bool):=(impl_within.f a0 0 255).bind fun A0=>(some A0)
set_option maxHeartbeats 8000000 in
set_option maxRecDepth 100000 in
theorem impl_isByte.calls (a0:Int) (r:Bool) (w:World) (h:impl_isByte.f a0=some r) :
  Calls Try.prog 139 #[.int .i64 a0] w fun e w'=>e = .returned (.bool r)∧Drawn0 w w':=by
 have H:((impl_within.f a0 0 255).bind fun A0=>(some A0))=some r:=h;clear h;replace H:=ob H;obtain ⟨A0,A20,H⟩:=H;replace H:(some A0)=some r:=H;have A2:=Aside0.mk A20;clear A20;obtain rfl:=os H
 go_enter Try.func139,Try.ntmps139
 go_wp2_with (first|((with_reducible refine gate_callee (f:=61) rfl ?_);refine goesL_ (some 4) rfl rfl Try.func61 (by kernel_rfl) rfl #[.int .i64 a0,.int .i64 0,.int .i64 255] rfl ml ?_;(with_reducible refine (impl_within.calls a0 0 255 A0 _ A2.out).mono ?_);rintro e w' ⟨rfl,⟨nd,rfl⟩⟩;refine ⟨_,rfl,?_⟩));go_ret;exact ⟨e1,dn⟩
end Go.Proofs.Ythipjoioicmcnaa.G
