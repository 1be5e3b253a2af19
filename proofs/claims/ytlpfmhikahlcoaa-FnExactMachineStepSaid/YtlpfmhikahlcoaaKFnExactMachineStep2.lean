-- texts of this session, merged by a program of it (wip/gen/pack.py)
import Derived.Test.YtlpfmhikahlcoaaKFnExactMachineStep1
import Derived.Test.YtlpfmhikahlcoaaProg
import Derived.Below
import Derived.Deep.Draws
import Derived.Deep.AppendLies
import Derived.Maps.AppendAt
import Derived.OwnWalk
import Derived.Laws.BytesArg
import Derived.Laws.MakeOwn
import Derived.Laws.OwnMore
import Derived.Deep.OwnRows
import Derived.Tactics
import Derived.Lib.ConvBytes
import Derived.Laws.Slices
import Derived.WalkKit
import Derived.KernelRfl
import Derived.RowKit3
import Derived.Deep.LoopGhost
import Derived.Deep.QuietTactic
import Derived.BigQuiet
import Derived.WideLaws
import Derived.Deep.DeepCutAuto
import Derived.Deep.CutBlock
import Derived.Deep.RegionHeld3
import Derived.Laws.Rows
import Derived.Lib.AppendStr
import Derived.ArgAppend
import Derived.Laws.IdiomCopy
import Derived.OrdersHeld
import Derived.Laws.BitsLemmas
import Derived.RowKit
import Derived.Laws.StructEq
import Derived.Shelf.Strings.Search3
import Derived.Shelf.Strings.Count
import Derived.Lib.IndexAny
namespace Go.Proofs.YtlpfmhikahlcoaaW.PrintMore
open Go.RowKit Go.Proofs.YtlpfmhikahlcoaaW.PrintWords
namespace Kd
open Go.Proofs.YtlpfmhikahlcoaaW.PrintWords.Kd
end Kd
namespace Kd
open Go.Proofs.YtlpfmhikahlcoaaW.PrintWords.Kd
section
variable {α:Type} {d:Kd α} {e base g N:Nat} {ok:Nat→Prop} {W w1:World} {u v:Value} {xs:List α}
end
end Kd
theorem max2_int (k k':IntKind) (x y:Int):Builtin.max2 (.int k x) (.int k' y)=pure (.int k (if x < y then y else x)):=by simp only [Builtin.max2,gt_iff_lt]
theorem min2_int (k k':IntKind) (x y:Int):Builtin.min2 (.int k x) (.int k' y)=pure (.int k (if y < x then y else x)):=by simp only [Builtin.min2]
theorem max_two (ats:Array TypeId) (ty:TypeId) (a b:Value):Builtin.max_ ats ty #[a,b]=(Builtin.max2 a b >>= fun s=>pure s):=by simp only [Builtin.max_,List.foldlM_cons,List.foldlM_nil]
theorem min_two (ats:Array TypeId) (ty:TypeId) (a b:Value):Builtin.min_ ats ty #[a,b]=(Builtin.min2 a b >>= fun s=>pure s):=by simp only [Builtin.min_,List.foldlM_cons,List.foldlM_nil]
theorem max_three (ats:Array TypeId) (ty:TypeId) (a b c:Value):Builtin.max_ ats ty #[a,b,c]=(Builtin.max2 a b >>= fun s=>Builtin.max2 s c >>= fun s=>pure s):=by simp only [Builtin.max_,List.foldlM_cons,List.foldlM_nil]
theorem min_three (ats:Array TypeId) (ty:TypeId) (a b c:Value):Builtin.min_ ats ty #[a,b,c]=(Builtin.min2 a b >>= fun s=>Builtin.min2 s c >>= fun s=>pure s):=by simp only [Builtin.min_,List.foldlM_cons,List.foldlM_nil]
theorem max_four (ats:Array TypeId) (ty:TypeId) (a b c d:Value):Builtin.max_ ats ty #[a,b,c,d]=(Builtin.max2 a b >>= fun s=>Builtin.max2 s c >>= fun s=>Builtin.max2 s d >>= fun s=>pure s):=by simp only [Builtin.max_,List.foldlM_cons,List.foldlM_nil]
theorem min_four (ats:Array TypeId) (ty:TypeId) (a b c d:Value):Builtin.min_ ats ty #[a,b,c,d]=(Builtin.min2 a b >>= fun s=>Builtin.min2 s c >>= fun s=>Builtin.min2 s d >>= fun s=>pure s):=by simp only [Builtin.min_,List.foldlM_cons,List.foldlM_nil]
end Go.Proofs.YtlpfmhikahlcoaaW.PrintMore
namespace Go.Proofs.YtlpfmhikahlcoaaW.PrintWords
open Go.RowKit
section
variable {P:Program} {ops:Array Oper} {rest:List Oper} {o:Oper} {a:Act} {Q:Exit→Act→World→Prop} {W:World}
theorem gate_callee {f:FuncId} {as_:Array Operand} {ts:Array TypeId} (_ho:o.op = .call { callee := .value (.func f),args:=as_,argTypes:=ts }) (h:wpList P ops Q (o :: rest) a W):wpList P ops Q (o :: rest) a W:=h
theorem gate_builtin {b:Builtin} {xs:Array Operand} {ts:Array TypeId} (_ho:o.op = .call { callee := .builtin b,args:=xs,argTypes:=ts }) (h:wpList P ops Q (o :: rest) a W):wpList P ops Q (o :: rest) a W:=h
end
def shl (k:IntKind) (x y:Int):Int:=k.wrap (x * 2 ^ min y.toNat k.bits)
theorem shl_small {k:IntKind} {x y j:Int} (h:shl k x y=j) (hy:y≤k.bits):k.wrap (x * 2 ^ y.toNat)=j:=by rw [← h];unfold shl;rw [Nat.min_eq_left (by omega)]
theorem drewN_self (w:World) (n:Nat):w.drewN n=w.drewN n:=rfl
namespace Kd
section
variable {α:Type} {d:Kd α} {e base:Nat} {ok:Nat→Prop} {W w1:World} {v:Value} {xs:List α}
end
section
variable {α:Type} {d:Kd α} {e base g n cap:Nat} {ok oki okp:Nat→Prop} {W:World} {xs:List α} {i:Int} {c:List Value}
end
section
variable {α:Type} {d:Kd α} {e base b b' g N:Nat} {ok ok1:Nat→Prop} {W W2 w1:World} {u v:Value} {xs ys:List α} {S:Nat→Prop}
theorem R_reok (hE:d.E=[]) (h:d.R e W base ok1 v xs) (hok:∀ k,v.ownBlock=some k→ok k):d.R e W base ok v xs:=R_mono (R_tight hE h) (fun k hk=>hok k hk.symm)
theorem R_keptB (h:d.R e W base ok v xs) (hk:Kept W W2 S) (hne:∀ k,ok k→¬ S k):d.R e W2 base (fun k=>ok k∧(¬ S k∧k < W.heap.size)) v xs :=
  R_kept (R_mono (R_bound h) (fun k hk=>⟨hk.1,hne k hk.1,hk.2.2.1⟩)) hk (fun _ hk=>hk.2.1)
end
end Kd
end Go.Proofs.YtlpfmhikahlcoaaW.PrintWords
namespace Go.Proofs.YtlpfmhikahlcoaaW.PrintWords
open Go.RowKit
namespace Kd
def V {α:Type} (d:Kd α) (_e:Nat) (W:World) (_base:Nat) (ok:Nat→Prop) (v:Value) (xs:List α):Prop:=∃ A c,v = .slice A xs.length c∧xs.length≤c∧F d W ok A xs.length xs
section
variable {α β:Type} {d:Kd α} {e base base' n m c g N' lo hi:Nat} {ok ok' S:Nat→Prop} {w W w1:World} {A:Option Addr} {ad:Addr} {u v v1:Value} {xs:List α}
theorem R_newM {M:Nat→Prop} (h:d.R e w1 W.heap.size ok v xs) (hle:w.heap.size≤W.heap.size) (hM:∀ k,w.heap.size≤k→M k):d.R e w1 W.heap.size (fun k=>M k∧ok k) v xs:=R_mono (R_bound h) (fun k hk=>⟨hM k (Nat.le_trans hle hk.2.1),hk.1⟩)
end
end Kd
end Go.Proofs.YtlpfmhikahlcoaaW.PrintWords
namespace Go.Proofs.YtlpfmhikahlcoaaW.PrintWords
open Go.RowKit
section
variable {P:Program} {ops:Array Oper} {rest:List Oper} {o:Oper} {a:Act} {Q:Exit→Act→World→Prop} {W:World}
theorem gate_guard (hw:Region.wanted o (yielded ops a.tmps)=true) (h:wpList P ops Q ({ o with guard:=none } :: rest) a W):wpList P ops Q (o :: rest) a W:=by
  have h1:Region.wanted { o with guard:=none } (yielded ops a.tmps)=true:=rfl
  unfold wpList at h ⊢
  rw [if_pos h1] at h
  rw [if_pos hw]
  exact h
end
end Go.Proofs.YtlpfmhikahlcoaaW.PrintWords
namespace Go.Proofs.Ytlpfmhikahlcoaa.Sh
open Go.RowKit Go.Proofs.YtlpfmhikahlcoaaW.PrintWords Go.Proofs.YtlpfmhikahlcoaaW.PrintLast Go.Proofs.YtlpfmhikahlcoaaW.PrintMore
theorem bb {W0 W w':World} {g:Nat} {o:Obj} (h:Aside0 (W0.heap[g]? = some o)) (hb:Below W.heap.size W w')
    (e:W0.heap[g]? = some o→W.heap[g]? = some o:=by first|(with_reducible exact id)|(intro h_;(with_reducible repeat (first|refine blk_drewN ?_ _|refine blk_drew ?_|refine blk_alloc ?_ _));first|(with_reducible exact h_)|exact h_)):Aside0 (w'.heap[g]? = some o):=⟨blk_below (e h.out) hb⟩
theorem nl {W0 W:World} {g g':Nat} {o:Obj} (hg:g'=W.heap.size) (h:Aside0 (W0.heap[g]? = some o))
    (e:W0.heap[g]? = some o→W.heap[g]? = some o:=by first|(with_reducible exact id)|(intro h_;(with_reducible repeat (first|refine blk_drewN ?_ _|refine blk_drew ?_|refine blk_alloc ?_ _));first|(with_reducible exact h_)|exact h_)):Aside0 (g≠g'):=⟨by rw [hg];exact Nat.ne_of_lt (blk_lt (e h.out))⟩
theorem ng {W0 W:World} {g g':Nat} {o:Obj} (hg:g'=W.heap.size) (h:Aside0 (W0.heap[g]? = some o))
    (e:W0.heap[g]? = some o→W.heap[g]? = some o:=by first|(with_reducible exact id)|(intro h_;(with_reducible repeat (first|refine blk_drewN ?_ _|refine blk_drew ?_|refine blk_alloc ?_ _));first|(with_reducible exact h_)|exact h_)):Aside0 (g'≠g):=⟨by rw [hg];exact Nat.ne_of_gt (blk_lt (e h.out))⟩
theorem dr {W0 W:World} {g:Nat} {o:Obj} (h:Aside0 (W0.heap[g]? = some o))
    (e:W0.heap[g]? = some o→W.heap[g]? = some o:=by first|(with_reducible exact id)|(intro h_;(with_reducible repeat (first|refine blk_drewN ?_ _|refine blk_drew ?_|refine blk_alloc ?_ _));first|(with_reducible exact h_)|exact h_)):W.heap[g]? = some o:=e h.out
theorem bz0 {w W0 W:World} {g':Nat} (hg:g'=W.heap.size) (h:Aside0 (Below w.heap.size w W0))
    (e:Below w.heap.size w W0→Below w.heap.size w W:=by intro h_;repeat (first|(with_reducible exact h_)|(with_reducible apply below_alloc)|(with_reducible apply pw_below_drewN)|(with_reducible apply below_drew1)|exact h_)):Aside0 (w.heap.size≤g'):=⟨by rw [hg];exact below_size (e h.out)⟩
theorem bs0 {w W0 W w':World} (h:Aside0 (Below w.heap.size w W0)) (hb:Below W.heap.size W w')
    (e:Below w.heap.size w W0→Below w.heap.size w W:=by intro h_;repeat (first|(with_reducible exact h_)|(with_reducible apply below_alloc)|(with_reducible apply pw_below_drewN)|(with_reducible apply below_drew1)|exact h_)):Aside0 (Below w.heap.size w w'):=⟨below_step (e h.out) hb⟩
theorem bz1 {w W0 W:World} {g':Nat} {x0:Nat} (hg:g'=W.heap.size) (h:Aside0 (Below w.heap.size w W0)) (g0:Aside0 (w.heap.size≤x0))
    (e:w.heap.size≤x0→Below w.heap.size w W0→Below w.heap.size w W:=by intro g0_ h_;repeat (first|(with_reducible exact h_)|(with_reducible apply below_alloc)|(with_reducible apply pw_below_drewN)|(with_reducible apply below_drew1)|(with_reducible refine below_set ?_ g0_)|exact h_)):Aside0 (w.heap.size≤g'):=⟨by rw [hg];exact below_size (e g0.out h.out)⟩
theorem bs1 {w W0 W w':World} {x0:Nat} (h:Aside0 (Below w.heap.size w W0)) (hb:Below W.heap.size W w') (g0:Aside0 (w.heap.size≤x0))
    (e:w.heap.size≤x0→Below w.heap.size w W0→Below w.heap.size w W:=by intro g0_ h_;repeat (first|(with_reducible exact h_)|(with_reducible apply below_alloc)|(with_reducible apply pw_below_drewN)|(with_reducible apply below_drew1)|(with_reducible refine below_set ?_ g0_)|exact h_)):Aside0 (Below w.heap.size w w'):=⟨below_step (e g0.out h.out) hb⟩
theorem bz2 {w W0 W:World} {g':Nat} {x0 x1:Nat} (hg:g'=W.heap.size) (h:Aside0 (Below w.heap.size w W0)) (g0:Aside0 (w.heap.size≤x0)) (g1:Aside0 (w.heap.size≤x1))
    (e:w.heap.size≤x0→w.heap.size≤x1→Below w.heap.size w W0→Below w.heap.size w W:=by intro g0_ g1_ h_;repeat (first|(with_reducible exact h_)|(with_reducible apply below_alloc)|(with_reducible apply pw_below_drewN)|(with_reducible apply below_drew1)|(with_reducible refine below_set ?_ g0_)|(with_reducible refine below_set ?_ g1_)|exact h_)):Aside0 (w.heap.size≤g'):=⟨by rw [hg];exact below_size (e g0.out g1.out h.out)⟩
theorem bs2 {w W0 W w':World} {x0 x1:Nat} (h:Aside0 (Below w.heap.size w W0)) (hb:Below W.heap.size W w') (g0:Aside0 (w.heap.size≤x0)) (g1:Aside0 (w.heap.size≤x1))
    (e:w.heap.size≤x0→w.heap.size≤x1→Below w.heap.size w W0→Below w.heap.size w W:=by intro g0_ g1_ h_;repeat (first|(with_reducible exact h_)|(with_reducible apply below_alloc)|(with_reducible apply pw_below_drewN)|(with_reducible apply below_drew1)|(with_reducible refine below_set ?_ g0_)|(with_reducible refine below_set ?_ g1_)|exact h_)):Aside0 (Below w.heap.size w w'):=⟨below_step (e g0.out g1.out h.out) hb⟩
theorem bz3 {w W0 W:World} {g':Nat} {x0 x1 x2:Nat} (hg:g'=W.heap.size) (h:Aside0 (Below w.heap.size w W0)) (g0:Aside0 (w.heap.size≤x0)) (g1:Aside0 (w.heap.size≤x1)) (g2:Aside0 (w.heap.size≤x2))
    (e:w.heap.size≤x0→w.heap.size≤x1→w.heap.size≤x2→Below w.heap.size w W0→Below w.heap.size w W:=by intro g0_ g1_ g2_ h_;repeat (first|(with_reducible exact h_)|(with_reducible apply below_alloc)|(with_reducible apply pw_below_drewN)|(with_reducible apply below_drew1)|(with_reducible refine below_set ?_ g0_)|(with_reducible refine below_set ?_ g1_)|(with_reducible refine below_set ?_ g2_)|exact h_)):Aside0 (w.heap.size≤g'):=⟨by rw [hg];exact below_size (e g0.out g1.out g2.out h.out)⟩
theorem bs3 {w W0 W w':World} {x0 x1 x2:Nat} (h:Aside0 (Below w.heap.size w W0)) (hb:Below W.heap.size W w') (g0:Aside0 (w.heap.size≤x0)) (g1:Aside0 (w.heap.size≤x1)) (g2:Aside0 (w.heap.size≤x2))
    (e:w.heap.size≤x0→w.heap.size≤x1→w.heap.size≤x2→Below w.heap.size w W0→Below w.heap.size w W:=by intro g0_ g1_ g2_ h_;repeat (first|(with_reducible exact h_)|(with_reducible apply below_alloc)|(with_reducible apply pw_below_drewN)|(with_reducible apply below_drew1)|(with_reducible refine below_set ?_ g0_)|(with_reducible refine below_set ?_ g1_)|(with_reducible refine below_set ?_ g2_)|exact h_)):Aside0 (Below w.heap.size w w'):=⟨below_step (e g0.out g1.out g2.out h.out) hb⟩
theorem bz4 {w W0 W:World} {g':Nat} {x0 x1 x2 x3:Nat} (hg:g'=W.heap.size) (h:Aside0 (Below w.heap.size w W0)) (g0:Aside0 (w.heap.size≤x0)) (g1:Aside0 (w.heap.size≤x1)) (g2:Aside0 (w.heap.size≤x2)) (g3:Aside0 (w.heap.size≤x3))
    (e:w.heap.size≤x0→w.heap.size≤x1→w.heap.size≤x2→w.heap.size≤x3→Below w.heap.size w W0→Below w.heap.size w W:=by intro g0_ g1_ g2_ g3_ h_;repeat (first|(with_reducible exact h_)|(with_reducible apply below_alloc)|(with_reducible apply pw_below_drewN)|(with_reducible apply below_drew1)|(with_reducible refine below_set ?_ g0_)|(with_reducible refine below_set ?_ g1_)|(with_reducible refine below_set ?_ g2_)|(with_reducible refine below_set ?_ g3_)|exact h_)):Aside0 (w.heap.size≤g'):=⟨by rw [hg];exact below_size (e g0.out g1.out g2.out g3.out h.out)⟩
theorem bs4 {w W0 W w':World} {x0 x1 x2 x3:Nat} (h:Aside0 (Below w.heap.size w W0)) (hb:Below W.heap.size W w') (g0:Aside0 (w.heap.size≤x0)) (g1:Aside0 (w.heap.size≤x1)) (g2:Aside0 (w.heap.size≤x2)) (g3:Aside0 (w.heap.size≤x3))
    (e:w.heap.size≤x0→w.heap.size≤x1→w.heap.size≤x2→w.heap.size≤x3→Below w.heap.size w W0→Below w.heap.size w W:=by intro g0_ g1_ g2_ g3_ h_;repeat (first|(with_reducible exact h_)|(with_reducible apply below_alloc)|(with_reducible apply pw_below_drewN)|(with_reducible apply below_drew1)|(with_reducible refine below_set ?_ g0_)|(with_reducible refine below_set ?_ g1_)|(with_reducible refine below_set ?_ g2_)|(with_reducible refine below_set ?_ g3_)|exact h_)):Aside0 (Below w.heap.size w w'):=⟨below_step (e g0.out g1.out g2.out g3.out h.out) hb⟩
theorem dq {W0 W:World} {g g':Nat} {o:Obj} (h:Aside0 (W0.heap[g]? = some o)) (n:Aside0 (g≠g'))
    (e:g≠g'→W0.heap[g]? = some o→W.heap[g]? = some o:=by (intro n_ h_;repeat (first|(with_reducible exact h_)|(with_reducible refine blk_drewN ?_ _)|(with_reducible refine blk_drew ?_)|(with_reducible refine blk_alloc ?_ _)|refine blk_far ?_ n_ _|exact h_))):W.heap[g]? = some o:=e n.out h.out
theorem bp2 {w:World} {g:Nat} {t:TypeId} {x0 x1 u0 u1:Value} (h:w.heap[g]? = some (.cells #[x0,x1] t (0,0))):((w.setCell ⟨g,0,none⟩ u0).setCell ⟨g,1,none⟩ u1).heap[g]? = some (.cells #[u0,u1] t (0,0)):=(blk_put (cs:=#[u0,x1]) (blk_put (cs:=#[x0,x1]) h 0 u0 rfl) 1 u1 rfl)
theorem bp11 {w:World} {g:Nat} {t:TypeId} {x0 x1 x2 x3 x4 x5 x6 x7 x8 x9 x10 u0 u1 u2 u3 u4 u5 u6 u7 u8 u9 u10:Value} (h:w.heap[g]? = some (.cells #[x0,x1,x2,x3,x4,x5,x6,x7,x8,x9,x10] t (0,0))):(((((((((((w.setCell ⟨g,0,none⟩ u0).setCell ⟨g,1,none⟩ u1).setCell ⟨g,2,none⟩ u2).setCell ⟨g,3,none⟩ u3).setCell ⟨g,4,none⟩ u4).setCell ⟨g,5,none⟩ u5).setCell ⟨g,6,none⟩ u6).setCell ⟨g,7,none⟩ u7).setCell ⟨g,8,none⟩ u8).setCell ⟨g,9,none⟩ u9).setCell ⟨g,10,none⟩ u10).heap[g]? = some (.cells #[u0,u1,u2,u3,u4,u5,u6,u7,u8,u9,u10] t (0,0)):=(blk_put (cs:=#[u0,u1,u2,u3,u4,u5,u6,u7,u8,u9,x10]) (blk_put (cs:=#[u0,u1,u2,u3,u4,u5,u6,u7,u8,x9,x10]) (blk_put (cs:=#[u0,u1,u2,u3,u4,u5,u6,u7,x8,x9,x10]) (blk_put (cs:=#[u0,u1,u2,u3,u4,u5,u6,x7,x8,x9,x10]) (blk_put (cs:=#[u0,u1,u2,u3,u4,u5,x6,x7,x8,x9,x10]) (blk_put (cs:=#[u0,u1,u2,u3,u4,x5,x6,x7,x8,x9,x10]) (blk_put (cs:=#[u0,u1,u2,u3,x4,x5,x6,x7,x8,x9,x10]) (blk_put (cs:=#[u0,u1,u2,x3,x4,x5,x6,x7,x8,x9,x10]) (blk_put (cs:=#[u0,u1,x2,x3,x4,x5,x6,x7,x8,x9,x10]) (blk_put (cs:=#[u0,x1,x2,x3,x4,x5,x6,x7,x8,x9,x10]) (blk_put (cs:=#[x0,x1,x2,x3,x4,x5,x6,x7,x8,x9,x10]) h 0 u0 rfl) 1 u1 rfl) 2 u2 rfl) 3 u3 rfl) 4 u4 rfl) 5 u5 rfl) 6 u6 rfl) 7 u7 rfl) 8 u8 rfl) 9 u9 rfl) 10 u10 rfl)
section
variable {α:Type} {d:Kd α} {e base t g:Nat} {W0 W w':World} {ok:Nat→Prop} {v:Value} {xs:List α} {cs:Array Value}
theorem rf (h:Aside0 (d.R e W0 base ok v xs)) (hb:Aside0 (W0.heap[g]? = some (.cells cs t (0,0)))) (ht:∀ q,q∈e :: d.E→q≠t:=by decide)
    (s:d.R e W0 base (fun k=>ok k∧k≠g) v xs→d.R e W base (fun k=>ok k∧k≠g) v xs:=by (intro h_;repeat (first|(with_reducible exact h_)|refine Kd.R_far ?_ (fun _ hk=>hk.2) _))):d.R e W base ok v xs:=Kd.R_mono (s (Kd.R_types h.out hb.out ht)) (fun _ h_=>h_.1)
theorem rb (h:Aside0 (d.R e W0 base ok v xs)) (hb:Below W.heap.size W w')
    (s:d.R e W0 base ok v xs→d.R e W base ok v xs:=by first|(with_reducible exact id)|(intro h_;(with_reducible repeat (first|apply Kd.R_alloc|apply Kd.R_drewN|apply Kd.R_drew));first|(with_reducible exact h_)|exact h_)):Aside0 (d.R e w' base ok v xs):=⟨Kd.R_below (s h.out) hb⟩
theorem rbf (h:Aside0 (d.R e W0 base ok v xs)) (h2:Aside0 (W0.heap[g]? = some (.cells cs t (0,0)))) (hb:Below W.heap.size W w') (ht:∀ q,q∈e :: d.E→q≠t:=by decide)
    (s:d.R e W0 base (fun k=>ok k∧k≠g) v xs→d.R e W base (fun k=>ok k∧k≠g) v xs:=by (intro h_;repeat (first|(with_reducible exact h_)|(with_reducible apply Kd.R_alloc)|(with_reducible apply Kd.R_drewN)|(with_reducible apply Kd.R_drew)|refine Kd.R_far ?_ (fun _ hk=>hk.2) _))):Aside0 (d.R e w' base ok v xs):=⟨Kd.R_below (Kd.R_mono (s (Kd.R_types h.out h2.out ht)) (fun _ h_=>h_.1)) hb⟩
theorem re (h:Aside0 (d.R e W0 base ok v xs)) {u:Value} (hu:∀ k,u.ownBlock=some k→W.heap.size≤k) (hb:Below W.heap.size W w')
    (s:d.R e W0 base ok v xs→d.R e W base ok v xs:=by first|(with_reducible exact id)|(intro h_;(with_reducible repeat (first|apply Kd.R_alloc|apply Kd.R_drewN|apply Kd.R_drew));first|(with_reducible exact h_)|exact h_)):Aside0 (d.R e w' base (fun k=>ok k∧some k≠u.ownBlock) v xs):=⟨Kd.R_elder' (s h.out) hu hb⟩
end
theorem tb {b:Nat} {w W w':World} (hb:Aside0 (Below b w W)) (h:Below b w W→Below b w w':=by intro h_;repeat (first|(with_reducible first|exact h_|apply below_alloc|apply pw_below_drewN|apply below_drew1|refine below_set ?_ (Aside0.out (by assumption)))|exact h_)):Below b w w':=h hb.out
theorem tk {w W0 W:World} {S:Nat→Prop} (hk:Aside0 (Kept w W0 S)) (h:Kept w W0 S→Kept w W S:=by intro h_;repeat (first|(with_reducible first|exact h_|apply Kept.alloc|apply Kept.drewN|apply Kept.drew|refine Kept.setCell ?_ (.inr (Aside0.out (by assumption))) _)|exact h_)):Kept w W S:=h hk.out
theorem f_ {w:World} {g:Nat} {t:TypeId} {cs:Array Value} (h:Aside0 (w.heap[g]? = some (.cells cs t (0,0)))):∀ i,w.frozen? ⟨g,i,none⟩=false:=fun i=>blk_frozen h.out i
theorem c2_ {w:World} {g:Nat} {t:TypeId} {x0 x1:Value} (h:Aside0 (w.heap[g]? = some (.cells #[x0,x1] t (0,0)))):w.cell? ⟨g,0,none⟩=some x0∧w.cell? ⟨g,1,none⟩=some x1:=⟨(blk_cell h.out 0).trans rfl,(blk_cell h.out 1).trans rfl⟩
theorem c11_ {w:World} {g:Nat} {t:TypeId} {x0 x1 x2 x3 x4 x5 x6 x7 x8 x9 x10:Value} (h:Aside0 (w.heap[g]? = some (.cells #[x0,x1,x2,x3,x4,x5,x6,x7,x8,x9,x10] t (0,0)))):w.cell? ⟨g,0,none⟩=some x0∧w.cell? ⟨g,1,none⟩=some x1∧w.cell? ⟨g,2,none⟩=some x2∧w.cell? ⟨g,3,none⟩=some x3∧w.cell? ⟨g,4,none⟩=some x4∧w.cell? ⟨g,5,none⟩=some x5∧w.cell? ⟨g,6,none⟩=some x6∧w.cell? ⟨g,7,none⟩=some x7∧w.cell? ⟨g,8,none⟩=some x8∧w.cell? ⟨g,9,none⟩=some x9∧w.cell? ⟨g,10,none⟩=some x10:=⟨(blk_cell h.out 0).trans rfl,(blk_cell h.out 1).trans rfl,(blk_cell h.out 2).trans rfl,(blk_cell h.out 3).trans rfl,(blk_cell h.out 4).trans rfl,(blk_cell h.out 5).trans rfl,(blk_cell h.out 6).trans rfl,(blk_cell h.out 7).trans rfl,(blk_cell h.out 8).trans rfl,(blk_cell h.out 9).trans rfl,(blk_cell h.out 10).trans rfl⟩
section
variable {α:Type} {d:Kd α} {e base:Nat} {W0 W:World} {ok:Nat→Prop} {v:Value} {xs:List α}
theorem ra (h:Aside0 (d.R e W0 base ok v xs)) (s:d.R e W0 base ok v xs→d.R e W base ok v xs:=by first|(with_reducible exact id)|(intro h_;(with_reducible repeat (first|apply Kd.R_alloc|apply Kd.R_drewN|apply Kd.R_drew));first|(with_reducible exact h_)|exact h_)):d.R e W base ok v xs:=s h.out
theorem rfs {base0:Nat} (h:d.R e W0 base0 ok v xs) (s:d.R e W0 base0 ok v xs→d.R e W base0 ok v xs:=by (intro h_;(with_reducible repeat (first|apply Kd.R_alloc|apply Kd.R_drewN|apply Kd.R_drew));repeat (first|(with_reducible exact h_)|refine Kd.R_far ?_ (by first|exact (fun _ hk=>hk.2)|exact (fun _ hk=>hk.1.2)) _))):d.R e W base0 (fun _=>True) v xs:=Kd.R_mono (s h) (fun _ _=>trivial)
end
theorem er {p:Prop} (h:p:=by first|rfl|(simp [errW_none,errW_some] <;> rfl)|(simp [*,errW_none,errW_some] <;> rfl)):p:=h
theorem od {p:Prop} [Decidable p] (h:decide p=true:=by first|(with_reducible assumption)|assumption):p:=of_decide_eq_true h
theorem dd {p:Prop} (h:p:=by first|exact ⟨rfl,_,World.drewN_drewN _ _ _⟩|exact ⟨rfl,_,Eq.trans (World.drewN_drewN _ _ _) (congrArg (World.drewN _) (Nat.add_assoc _ _ _))⟩):p:=h
theorem ml {p:Prop} (h:p:=by (try simp only [List.map_toArray,List.map_cons,List.map_nil]);first|done|rfl|(simp only [List.length_drop,List.length_take];rfl)):p:=h
theorem cw {α:Type} {d:Kd α} {A:Option Addr} {n:Nat} {xs:List α} {W0 W:World} (h:d.C W0 A n xs) (s:d.C W0 A n xs→d.C W A n xs:=by (intro h_;repeat (first|exact h_|(with_reducible refine Kd.C_alloc ?_ _)|(with_reducible refine Kd.C_drewN ?_ _)|(with_reducible refine Kd.C_drew ?_)))):d.C W A n xs:=s h
theorem bx {P:Program} {ops:Array Oper} {rest:List Oper} {o:Oper} {a:Act} {Q:Exit→Act→World→Prop} {W:World} {N:Tmp} {cs:Array Value} {t:TypeId}
    (h:∀ g,g=W.heap.size→∀ w1,w1.heap[g]? = some (.cells cs t (0,0))→Below W.heap.size W w1→wpList P ops Q rest (a.put o.dst (.pointer (some ⟨g,0,none⟩))) w1)
    (hgd:o.guard=none:=by rfl) (hd:o.dst=some N:=by rfl)
    (hrun:(execOp a.eval o).run P W = .ok (.value (.pointer (some ⟨W.heap.size,0,none⟩))) (W.alloc (.cells cs t (0,0))):=by first|(go_simp;done)|(go_simp;rfl)):wpList P ops Q (o :: rest) a W:=box_event hgd hd hrun h
end Go.Proofs.Ytlpfmhikahlcoaa.Sh
namespace Go.Proofs.YtlpfmhikahlcoaaW.PrintLast
open Go.Proofs.YtlpfmhikahlcoaaW.PrintWords (Aside0)
def needsOf (md:Region.Mode) (o:Oper):List Nat:=(o.after.toList.filter (fun e=>Region.binds md e)).map (fun e=>e.on)
def clashOf (md:Region.Mode) (ops:Array Oper) (i:Nat) (oi:Oper):List Nat:=(List.range ops.size).filter fun j => !(j == i) && match ops[j]? with
  | some oj => !(oj.after.any (fun e=>Region.binds md e && e.on == i) || oi.apart ops oj)
  | none=>false
def rtab (md:Region.Mode) (ops:Array Oper):Bool × List (List Nat × List Nat):=(Region.noSelect ops,(List.range ops.size).map fun i=>match ops[i]? with
  | some o=>(needsOf md o,clashOf md ops i o)
  | none=>([],[]))
def readyAt (T:List (List Nat × List Nat)) (l:List Bool) (i:Nat):Bool := !l.getD i true && match T[i]? with
  | some r=>r.1.all (fun j=>l.getD j false)
  | none=>false
def readyT (T:List (List Nat × List Nat)) (l:List Bool):List Nat:=(List.range T.length).filter (readyAt T l)
def freeT (T:List (List Nat × List Nat)) (l:List Bool) (i:Nat):Bool:=match T[i]? with
  | some r=>r.2.all (fun j=>l.getD j true)
  | none=>false
def closedT (T:List (List Nat × List Nat)) (l:List Bool):Bool:=(List.range T.length).all fun j => !l.getD j false || match T[j]? with
  | some r=>r.1.all (fun k=>l.getD k false)
  | none=>true
def reachT (T:List (List Nat × List Nat)) (i:Nat):Nat→Nat→Bool
  | 0,_=>false
  | fuel + 1,d=>match T[d]? with
    | some r=>r.1.any fun j=>j == i || reachT T i fuel j
    | none=>false
def lastT (T:List (List Nat × List Nat)) (l:List Bool) (ds:List Nat) (i:Nat):Bool:=ds.all fun d=>l.getD d true || reachT T i T.length d
section
variable {md:Region.Mode} {ops:Array Oper} {T:Bool × List (List Nat × List Nat)} {l l' li lj lk:Array Bool} {ds:List Nat} {i j k:Nat}
theorem gd (l:Array Bool) (j:Nat) (b:Bool):l.getD j b=l.toList.getD j b:=by simp [Array.getD_eq_getD_getElem?,List.getD_eq_getElem?_getD]
theorem needs_all (o:Oper) (p:Nat→Bool):o.after.all (fun e => !Region.binds md e || p e.on)=(needsOf md o).all p:=by
  unfold needsOf
  rw [← Array.all_toList]
  induction o.after.toList with
  | nil=>rfl
  | cons e r ih =>
    rw [List.all_cons,ih,List.filter_cons]
    cases h:Region.binds md e <;> simp
theorem needs_any (o:Oper) (p:Nat→Bool):o.after.any (fun e=>Region.binds md e && p e.on)=(needsOf md o).any p:=by
  unfold needsOf
  rw [← Array.any_toList]
  induction o.after.toList with
  | nil=>rfl
  | cons e r ih =>
    rw [List.any_cons,ih,List.filter_cons]
    cases h:Region.binds md e <;> simp
theorem rtab_length:(rtab md ops).2.length=ops.size:=by simp [rtab]
theorem rtab_some {o:Oper} (h:ops[i]? = some o):(rtab md ops).2[i]? = some (needsOf md o,clashOf md ops i o):=by
  have hi:=(Array.getElem?_eq_some_iff.1 h).1
  unfold rtab
  rw [List.getElem?_map,List.getElem?_range hi,Option.map_some,h]
theorem rtab_none (h:ops[i]? = none):(rtab md ops).2[i]? = none:=by
  have hi:ops.size≤i:=Array.getElem?_eq_none_iff.1 h
  exact List.getElem?_eq_none (by rw [rtab_length];exact hi)
theorem readyAt_eq:readyAt (rtab md ops).2 l.toList i=(!l.getD i true && ((ops[i]?).map (·.after.all fun e => !Region.binds md e || l.getD e.on false)).getD false):=by
  unfold readyAt
  rw [gd]
  cases h:ops[i]? with
  | none=>rw [rtab_none h];rfl
  | some o =>
    rw [rtab_some h]
    simp only [Option.map_some,Option.getD_some]
    rw [← needs_all]
    simp only [gd]
theorem ready_eq:Region.ready md ops l=readyT (rtab md ops).2 l.toList:=by
  unfold Region.ready readyT
  rw [rtab_length]
  refine List.filter_congr (fun i _=>?_)
  rw [readyAt_eq]
theorem free_eq:Region.free md ops l i=freeT (rtab md ops).2 l.toList i:=by
  unfold Region.free freeT
  cases h:ops[i]? with
  | none=>rw [rtab_none h]
  | some oi =>
    rw [rtab_some h]
    simp only [clashOf]
    rw [List.all_filter]
    congr 1
    funext j
    rw [gd]
    cases hj:ops[j]? with
    | none=>cases (j == i) <;> cases (l.toList.getD j true) <;> simp
    | some oj =>
      cases (j == i) <;> cases (l.toList.getD j true) <;> cases (oj.after.any (fun e=>Region.binds md e && e.on == i) || oi.apart ops oj) <;> simp_all
theorem closed_eq:Region.closedB md ops l=closedT (rtab md ops).2 l.toList:=by
  unfold Region.closedB closedT
  rw [rtab_length]
  congr 1
  funext j
  rw [gd]
  cases h:ops[j]? with
  | none=>rw [rtab_none h]
  | some o =>
    rw [rtab_some h]
    simp only
    rw [← needs_all]
    simp only [gd]
theorem reach_eq:∀ (fuel d:Nat),Region.reachB md ops i fuel d=reachT (rtab md ops).2 i fuel d
  | 0,_=>rfl
  | fuel + 1,d=>by
    unfold Region.reachB reachT
    cases h:ops[d]? with
    | none=>rw [rtab_none h]
    | some o =>
      rw [rtab_some h]
      simp only
      rw [← needs_any]
      congr 1
      funext e
      rw [reach_eq fuel]
theorem last_eq:Region.lastB md ops l ds i=lastT (rtab md ops).2 l.toList ds i:=by
  unfold Region.lastB lastT
  rw [rtab_length]
  congr 1
  funext d
  rw [gd,reach_eq]
theorem readyAt_mem (h:readyAt T.2 l.toList i=true) (hT:rtab md ops=T):(Region.ready md ops l).contains i=true:=by
  subst hT
  rw [ready_eq]
  unfold readyT
  rw [List.contains_iff_mem,List.mem_filter,List.mem_range]
  refine ⟨?_,h⟩
  unfold readyAt at h
  rw [Bool.and_eq_true] at h
  cases hq:(rtab md ops).2[i]? with
  | none=>rw [hq] at h;simp at h
  | some r=>exact (List.getElem?_eq_some_iff.1 hq).1
theorem set_of (h:(l.toList.set i true == l'.toList)=true):(l.setIfInBounds i true == l')=true:=by
  rw [beq_iff_eq] at h ⊢
  apply Array.ext'
  rw [Array.toList_setIfInBounds]
  exact h
def anyT (T:Bool × List (List Nat × List Nat)) (l l':List Bool) (i:Nat):Bool:=T.1 && freeT T.2 l i && readyAt T.2 l i && (l.set i true == l')
theorem any_of (hT:rtab md ops=T) (h:anyT T l.toList l'.toList i=true):anyB md ops l l' i=true:=by
  simp only [anyT,Bool.and_eq_true] at h
  obtain ⟨⟨⟨h1,h2⟩,h3⟩,h4⟩:=h
  have h5:=readyAt_mem h3 hT
  have h6:=set_of h4
  subst hT
  simp only [anyB,Bool.and_eq_true]
  exact ⟨⟨⟨h1,by rw [free_eq];exact h2⟩,h5⟩,h6⟩
def takeT (T:Bool × List (List Nat × List Nat)) (ds:List Nat) (l l':List Bool) (i:Nat):Bool:=T.1 && freeT T.2 l i && readyAt T.2 l i && closedT T.2 l && lastT T.2 l ds i && (l.set i true == l')
theorem take_of (hT:rtab md ops=T) (h:takeT T ds l.toList l'.toList i=true):takeB md ops ds l l' i=true:=by
  simp only [takeT,Bool.and_eq_true] at h
  obtain ⟨⟨⟨⟨⟨h1,h2⟩,h3⟩,h4⟩,h5⟩,h6⟩:=h
  have h7:=readyAt_mem h3 hT
  have h8:=set_of h6
  subst hT
  simp only [takeB,Bool.and_eq_true]
  exact ⟨⟨⟨⟨⟨h1,by rw [free_eq];exact h2⟩,h7⟩,by rw [closed_eq];exact h4⟩,by rw [last_eq];exact h5⟩,h8⟩
theorem one_of (hT:rtab md ops=T) (h:(readyT T.2 l.toList == [i] && l.toList.set i true == l'.toList)=true):readyB md ops l l' i=true:=by
  simp only [Bool.and_eq_true] at h
  obtain ⟨h1,h2⟩:=h
  subst hT
  simp only [readyB,Bool.and_eq_true]
  exact ⟨by rw [ready_eq];exact h1,set_of h2⟩
theorem two_of (hT:rtab md ops=T) (h:(readyT T.2 l.toList == [i,j] && l.toList.set i true == li.toList && l.toList.set j true == lj.toList)=true):(Region.ready md ops l == [i,j] && l.setIfInBounds i true == li && l.setIfInBounds j true == lj)=true:=by
  simp only [Bool.and_eq_true] at h ⊢
  obtain ⟨⟨h1,h2⟩,h3⟩:=h
  subst hT
  exact ⟨⟨by rw [ready_eq];exact h1,set_of h2⟩,set_of h3⟩
theorem done_of (hT:rtab md ops=T) (h:(readyT T.2 l.toList == [])=true):(Region.ready md ops l == [])=true:=by
  subst hT
  rw [ready_eq]
  exact h
def upM (B:List Nat) (d:Nat):List Nat→Nat
  | []=>0
  | n :: r=>(2 ^ n ||| (if n < d then B.getD n 0 else 0)) ||| upM B d r
def waitsOk (T:List (List Nat × List Nat)) (B:List Nat):Bool:=(List.range T.length).all fun d=>match T[d]? with
  | some r=>(B.getD d 0 ||| upM B d r.1) == upM B d r.1
  | none=>false
theorem upM_bit {B:List Nat} {d i:Nat}:∀ {ns:List Nat},(upM B d ns).testBit i=true→∃ n∈ns,n=i∨(n < d∧(B.getD n 0).testBit i=true)
  | [],h=>by simp [upM] at h
  | n :: r,h=>by
    unfold upM at h
    rw [Nat.testBit_or,Nat.testBit_or,Bool.or_eq_true,Bool.or_eq_true] at h
    rcases h with (h|h)|h
    · rw [Nat.testBit_two_pow] at h
      exact ⟨n,List.mem_cons_self,.inl (by simpa using h)⟩
    · by_cases hn:n < d
      · rw [if_pos hn] at h
        exact ⟨n,List.mem_cons_self,.inr ⟨hn,h⟩⟩
      · rw [if_neg hn] at h
        simp at h
    · obtain ⟨m,hm,h2⟩:=upM_bit h
      exact ⟨m,List.mem_cons_of_mem _ hm,h2⟩
theorem reach_bit {T:List (List Nat × List Nat)} {B:List Nat} (hB:waitsOk T B=true):∀ (fuel d:Nat),d < fuel→d < T.length→(B.getD d 0).testBit i=true→reachT T i fuel d=true
  | 0,d,h,_,_=>by omega
  | fuel + 1,d,h,hd,hb=>by
    have h1:=List.all_eq_true.1 hB d (List.mem_range.2 hd)
    cases hr:T[d]? with
    | none=>rw [hr] at h1;simp at h1
    | some r =>
      rw [hr] at h1
      simp only [beq_iff_eq] at h1
      have h2:(upM B d r.1).testBit i=true:=by rw [← h1,Nat.testBit_or,hb,Bool.true_or]
      obtain ⟨n,hn,h3⟩:=upM_bit h2
      unfold reachT
      rw [hr]
      simp only
      rw [List.any_eq_true]
      refine ⟨n,hn,?_⟩
      rcases h3 with rfl | ⟨h4,h5⟩
      · simp
      · rw [reach_bit hB fuel n (by omega) (by omega) h5,Bool.or_true]
def lastW (T:List (List Nat × List Nat)) (B:List Nat) (l:List Bool) (ds:List Nat) (i:Nat):Bool:=ds.all fun d=>l.getD d true || (decide (d < T.length) && (B.getD d 0).testBit i)
def takeW (T:Bool × List (List Nat × List Nat)) (B:List Nat) (ds:List Nat) (l l':List Bool) (i:Nat):Bool:=T.1 && freeT T.2 l i && readyAt T.2 l i && closedT T.2 l && lastW T.2 B l ds i && (l.set i true == l')
theorem take_ofW {B:List Nat} (hT:rtab md ops=T) (hB:waitsOk T.2 B=true) (h:takeW T B ds l.toList l'.toList i=true):takeB md ops ds l l' i=true:=by
  refine take_of hT ?_
  simp only [takeW,takeT,Bool.and_eq_true] at h ⊢
  obtain ⟨⟨⟨⟨⟨h1,h2⟩,h3⟩,h4⟩,h5⟩,h6⟩:=h
  refine ⟨⟨⟨⟨⟨h1,h2⟩,h3⟩,h4⟩,?_⟩,h6⟩
  unfold lastW at h5
  unfold lastT
  rw [List.all_eq_true] at h5 ⊢
  intro d hd
  have h7:=h5 d hd
  rw [Bool.or_eq_true,Bool.and_eq_true,decide_eq_true_eq] at h7
  rcases h7 with h7 | ⟨h8,h9⟩
  · rw [h7,Bool.true_or]
  · rw [reach_bit hB _ d h8 h8 h9,Bool.or_true]
theorem with_tabW {P:Program} {Q:Exit→Act→World→Prop} {S:World→Prop} {n:Nat} {a:Act} {w:World} {B:List Nat} (hT:rtab md ops=T) (hB:waitsOk T.2 B=true) (h:Aside0 (rtab md ops=T)→Aside0 (waitsOk T.2 B=true)→wpAnyLast P md ops Q S ds n l a w):wpAnyLast P md ops Q S ds n l a w:=h ⟨hT⟩ ⟨hB⟩
end
def opsIn:Code→Nat→Option (Array Oper)
  | .region id ops _,k=>if id == k then some ops else none
  | .seq a b,k=>match opsIn a k with
    | some o=>some o
    | none=>opsIn b k
  | .cond _ a b,k=>match opsIn a k with
    | some o=>some o
    | none=>opsIn b k
  | .block _ c,k=>opsIn c k
  | .loop c,k=>opsIn c k
  | .scope c,k=>opsIn c k
  | .rangeFunc _ _ a b,k=>match opsIn a k with
    | some o=>some o
    | none=>opsIn b k
  | _,_=>none
def opsOf (f:Func) (k:Nat):Array Oper:=((f.body.bind fun c=>opsIn c k)).getD #[]
end Go.Proofs.YtlpfmhikahlcoaaW.PrintLast
namespace Go.Proofs.YtlpfmhikahlcoaaW.PrintWords
open Go.RowKit
section
variable {w w' u:World} {m B g:Nat} {o:Obj} {row:Option Nat} {S:Nat→Prop} {a:Addr} {v:Value}
theorem below_at (hq:w.drewN m=w') (h:Below B u w):Below B u w':=by subst hq;exact pw_below_drewN h m
theorem kept_at (hq:w.drewN m=w') (h:Kept u w S):Kept u w' S:=by subst hq;exact Kept.drewN h m
theorem blk_at (hq:w.drewN m=w') (h:w.heap[g]? = some o):w'.heap[g]? = some o:=by subst hq;exact h
end
namespace Kd
section
variable {α:Type} {d:Kd α} {e base n m:Nat} {ok:Nat→Prop} {w w':World} {v:Value} {A:Option Addr} {xs:List α}
theorem R_at (hq:w.drewN m=w') (h:d.R e w base ok v xs):d.R e w' base ok v xs:=by subst hq;exact R_drewN h m
end
end Kd
end Go.Proofs.YtlpfmhikahlcoaaW.PrintWords
namespace Go.Proofs.YtlpfmhikahlcoaaW.PrintWords
theorem Reps.one {α:Type} {R:α→List Value→Prop} {ps:List α} {cs:List Value} {p:α} {v:Value} (hp:R p [v]) (h:Reps R 1 ps cs):Reps R 1 (p :: ps) (v :: cs):=by
  refine ⟨by simp [h.1],fun j q hq=>?_⟩
  cases j with
  | zero =>
    simp only [List.getElem?_cons_zero,Option.some.injEq] at hq
    subst hq
    simpa using hp
  | succ j =>
    simp only [List.getElem?_cons_succ] at hq
    have h1:=h.2 j q hq
    simpa [Nat.mul_one] using h1
theorem Reps.front {α:Type} {R:α→List Value→Prop} {size:Nat} {ps:List α} {cs c all:List Value} {p:α} (hp:R p c) (hc:c.length=size) (h:Reps R size ps cs) (ha:c ++ cs=all):Reps R size (p :: ps) all:=by
  subst ha
  refine ⟨by rw [List.length_append,hc,h.1,List.length_cons,Nat.succ_mul,Nat.add_comm],fun j q hq=>?_⟩
  cases j with
  | zero =>
    simp only [List.getElem?_cons_zero,Option.some.injEq] at hq
    subst hq
    rw [Nat.zero_mul,List.drop_zero,List.take_append_of_le_length (by omega),List.take_of_length_le (by omega)]
    exact hp
  | succ j =>
    simp only [List.getElem?_cons_succ] at hq
    have h1:=h.2 j q hq
    rw [Nat.succ_mul,List.drop_append,List.drop_of_length_le (by rw [hc];exact Nat.le_add_left _ _),List.nil_append,hc,Nat.add_sub_cancel]
    exact h1
theorem Reps.c2 {α:Type} {R:α→List Value→Prop} {ps:List α} {cs:List Value} {p:α} {va vb:Value} (hp:R p [va,vb]) (h:Reps R 2 ps cs):Reps R 2 (p :: ps) (va :: vb :: cs):=Reps.front hp rfl h rfl
theorem Reps.c3 {α:Type} {R:α→List Value→Prop} {ps:List α} {cs:List Value} {p:α} {va vb vc:Value} (hp:R p [va,vb,vc]) (h:Reps R 3 ps cs):Reps R 3 (p :: ps) (va :: vb :: vc :: cs):=Reps.front hp rfl h rfl
theorem Reps.c4 {α:Type} {R:α→List Value→Prop} {ps:List α} {cs:List Value} {p:α} {va vb vc vd:Value} (hp:R p [va,vb,vc,vd]) (h:Reps R 4 ps cs):Reps R 4 (p :: ps) (va :: vb :: vc :: vd :: cs):=Reps.front hp rfl h rfl
theorem Reps.c5 {α:Type} {R:α→List Value→Prop} {ps:List α} {cs:List Value} {p:α} {va vb vc vd ve:Value} (hp:R p [va,vb,vc,vd,ve]) (h:Reps R 5 ps cs):Reps R 5 (p :: ps) (va :: vb :: vc :: vd :: ve :: cs):=Reps.front hp rfl h rfl
theorem Reps.c6 {α:Type} {R:α→List Value→Prop} {ps:List α} {cs:List Value} {p:α} {va vb vc vd ve vf:Value} (hp:R p [va,vb,vc,vd,ve,vf]) (h:Reps R 6 ps cs):Reps R 6 (p :: ps) (va :: vb :: vc :: vd :: ve :: vf :: cs):=Reps.front hp rfl h rfl
theorem Reps.c7 {α:Type} {R:α→List Value→Prop} {ps:List α} {cs:List Value} {p:α} {va vb vc vd ve vf vg:Value} (hp:R p [va,vb,vc,vd,ve,vf,vg]) (h:Reps R 7 ps cs):Reps R 7 (p :: ps) (va :: vb :: vc :: vd :: ve :: vf :: vg :: cs):=Reps.front hp rfl h rfl
theorem Reps.c8 {α:Type} {R:α→List Value→Prop} {ps:List α} {cs:List Value} {p:α} {va vb vc vd ve vf vg vh:Value} (hp:R p [va,vb,vc,vd,ve,vf,vg,vh]) (h:Reps R 8 ps cs):Reps R 8 (p :: ps) (va :: vb :: vc :: vd :: ve :: vf :: vg :: vh :: cs):=Reps.front hp rfl h rfl
theorem Reps.c9 {α:Type} {R:α→List Value→Prop} {ps:List α} {cs:List Value} {p:α} {va vb vc vd ve vf vg vh vi:Value} (hp:R p [va,vb,vc,vd,ve,vf,vg,vh,vi]) (h:Reps R 9 ps cs):Reps R 9 (p :: ps) (va :: vb :: vc :: vd :: ve :: vf :: vg :: vh :: vi :: cs):=Reps.front hp rfl h rfl
theorem Reps.c10 {α:Type} {R:α→List Value→Prop} {ps:List α} {cs:List Value} {p:α} {va vb vc vd ve vf vg vh vi vj:Value} (hp:R p [va,vb,vc,vd,ve,vf,vg,vh,vi,vj]) (h:Reps R 10 ps cs):Reps R 10 (p :: ps) (va :: vb :: vc :: vd :: ve :: vf :: vg :: vh :: vi :: vj :: cs):=Reps.front hp rfl h rfl
end Go.Proofs.YtlpfmhikahlcoaaW.PrintWords
namespace Go.Proofs.YtlpfmhikahlcoaaW.PrintLast
def up (b:Nat→Bool) (i:Nat):Nat→Bool:=fun j=>if j=i then true else b j
section
variable {P:Program} {ops:Array Oper} {Q:Exit→Act→World→Prop} {md:Region.Mode} {T:Bool × List (List Nat × List Nat)} {B:List Nat} {O:List Nat} {b:Nat→Bool} {i j n:Nat}
end
end Go.Proofs.YtlpfmhikahlcoaaW.PrintLast
namespace Go.Proofs.Ytlpfmhikahlcoaa.G
open Go.Proofs.Ytlpfmhikahlcoaa.Sh Go.RowKit Go.Proofs.YtlpfmhikahlcoaaW.PrintWords Go.Proofs.YtlpfmhikahlcoaaW.PrintLast Go.Proofs.YtlpfmhikahlcoaaW.PrintMore
attribute [local go_sem] max2_int min2_int max_two min_two max_three min_three max_four min_four
set_option linter.unusedVariables false
set_option linter.unusedSimpArgs false
def errW:Option Int→Value
  | none => .nilIface
  | some c => .iface 0 (.int .i64 c)
theorem errW_none:errW none = .nilIface:=rfl
theorem errW_some (c:Int):errW (some c) = .iface 0 (.int .i64 c):=rfl
theorem info3:(Try.prog.info? 3).map (fun i=>(i.zero,i.size,i.bytes))=some (some (.int .i64 0),1,8):=by kernel_rfl
theorem info4:(Try.prog.info? 4).map (fun i=>(i.zero,i.size,i.bytes))=some (some (.bool false),1,1):=by kernel_rfl
theorem info86:(Try.prog.info? 86).map (fun i=>(i.zero,i.size,i.bytes))=some (some (.agg #[(.string ⟨#[]⟩),(.int .i64 0)]),2,24):=by kernel_rfl
structure S86 where
 f0:ByteArray
 f1:Int
def z86:S86:=⟨(⟨#[]⟩:ByteArray),(0:Int)⟩
def k86:Kd S86:=Kd.iso (Kd.pair Kd.string (Kd.int .i64)) (fun x:S86=>(x.f0,x.f1))
theorem k86_open {w:World} {x:S86} {cs:List Value} (h:k86.K w x cs):cs=[.string x.f0,.int .i64 x.f1]:=by
 obtain ⟨_,_,rfl,rfl,rfl⟩:=h
 exact rfl
theorem k86_openM {w:World} {base:Nat} {ok:Nat→Prop} {x:S86} {cs:List Value} (h:k86.M w base ok x cs):cs=[.string x.f0,.int .i64 x.f1]:=by
 obtain ⟨_,_,rfl,rfl,rfl⟩:=h
 exact rfl
theorem k86_mkM (w:World) (base:Nat) (ok:Nat→Prop) (x:S86)  : k86.M w base ok x [.string x.f0,.int .i64 x.f1]:=⟨[.string x.f0],[.int .i64 x.f1],rfl,rfl,rfl⟩
def rd_T86 (xs:List S86) (i:Int):S86:=xs.getD i.toNat z86
theorem at_T86 {w:World} {A:Option Addr} {n:Nat} {xs:List S86} (h:Kd.C k86 w A n xs) (i:Int) (h0:0≤i) (h1:i < n):∃ ad ,A=some ad∧w.cell? (ad.add (i.toNat * 2))=some (.string (rd_T86 xs i).f0)∧w.cell? ⟨(ad.add (i.toNat * 2)).block,(ad.add (i.toNat * 2)).off + 1,none⟩=some (.int .i64 (rd_T86 xs i).f1):=by
 obtain ⟨ad,c,e,_,hK,hc0⟩:=Kd.C_get h z86 i h0 h1
 have hc:∀ j u,c[j]? = some u→w.cell? (ad.add (i.toNat * 2 + j))=some u:=hc0
 obtain rfl:=k86_open hK
 exact ⟨ad,e,hc 0 _ rfl,by rw [← add_field _ _ 1 (by omega)];exact hc 1 _ rfl⟩
structure S130 where
 f0:ByteArray
 f1:Int
def z130:S130:=⟨(⟨#[]⟩:ByteArray),(0:Int)⟩
def k130:Kd S130:=Kd.iso (Kd.pair Kd.string (Kd.int .i64)) (fun x:S130=>(x.f0,x.f1))
theorem k130_open {w:World} {x:S130} {cs:List Value} (h:k130.K w x cs):cs=[.string x.f0,.int .i64 x.f1]:=by
 obtain ⟨_,_,rfl,rfl,rfl⟩:=h
 exact rfl
def rd_T130 (xs:List S130) (i:Int):S130:=xs.getD i.toNat z130
theorem at_T130 {w:World} {A:Option Addr} {n:Nat} {xs:List S130} (h:Kd.C k130 w A n xs) (i:Int) (h0:0≤i) (h1:i < n):∃ ad ,A=some ad∧w.cell? (ad.add (i.toNat * 2))=some (.string (rd_T130 xs i).f0)∧w.cell? ⟨(ad.add (i.toNat * 2)).block,(ad.add (i.toNat * 2)).off + 1,none⟩=some (.int .i64 (rd_T130 xs i).f1):=by
 obtain ⟨ad,c,e,_,hK,hc0⟩:=Kd.C_get h z130 i h0 h1
 have hc:∀ j u,c[j]? = some u→w.cell? (ad.add (i.toNat * 2 + j))=some u:=hc0
 obtain rfl:=k130_open hK
 exact ⟨ad,e,hc 0 _ rfl,by rw [← add_field _ _ 1 (by omega)];exact hc 1 _ rfl⟩
end Go.Proofs.Ytlpfmhikahlcoaa.G
namespace Go.Proofs.Ytlpfmhikahlcoaa.Fv
open Go.RowKit Go.Proofs.YtlpfmhikahlcoaaW.PrintWords Go.Proofs.YtlpfmhikahlcoaaW.PrintLast Go.Proofs.YtlpfmhikahlcoaaW.PrintMore
structure Enterable (P:Program) (c:Nat):Prop where
  out : ∃ fn, P.funcs[c]? = some fn ∧ (fn.name == "runtime.NumGoroutine") = false ∧ fn.body.isSome = true
theorem Enterable.of {P : Program} {c : Nat} {fn : Func} (hf : P.funcs[c]? = some fn) (hname : (fn.name == "runtime.NumGoroutine") = false) (hb : fn.body.isSome = true) : Enterable P c := ⟨fn, hf, hname, hb⟩
section
variable {P:Program} {ops:Array Oper} {rest:List Oper} {o:Oper} {a:Act} {w:World} {Q:Exit→Act→World→Prop}
theorem gate_calleeV {q:Operand} {ars:Array Operand} {ts:Array TypeId} (_ho:o.op = .call { callee := .value q,args:=ars,argTypes:=ts }) (h:wpList P ops Q (o :: rest) a w):wpList P ops Q (o :: rest) a w:=h
theorem goesV_ (N:Option Tmp) (hd:o.dst=N) (hg:o.guard=none) {f:FuncId} {q:Operand} {caps:Array Value} {ars:Array Operand} {ts:Array TypeId} (hf:Enterable P f)
    (hv:a.eval q = .func (.func f) #[] caps) (args:Array Value) (hop:o.op = .call { callee := .value q,args:=ars,argTypes:=ts }) (hargs:ars.map a.eval=args)
    (h:Calls P f (args ++ caps) w fun e w'=>∃ v,e = .returned v∧wpList P ops Q rest (a.put N v) w'):wpList P ops Q (o :: rest) a w:=by
  obtain ⟨fn,hf1,hf2,hf3⟩:=hf.out
  refine wpList_plain hg fun K hK=>?_
  have he:=enters_ hf1 hf2 hf3 (args ++ caps) w
  have hrun:(execOp a.eval o).run P w = .ok (.enter f (args ++ caps)) w:=by
    unfold execOp
    simp [hop,resolve,hv,Deferred.ofValue,invoke,hargs,he]
  unfold Oper.wp
  rw [hrun,Oper.upon_enter]
  refine h.mono fun e w'' hh=>?_
  obtain ⟨v,rfl,hk⟩:=hh
  subst hd
  exact hK _ _ hk
end
end Go.Proofs.Ytlpfmhikahlcoaa.Fv
namespace Go.Proofs.Ytlpfmhikahlcoaa.G
open Go.Proofs.Ytlpfmhikahlcoaa.Sh
open Go.RowKit Go.Proofs.YtlpfmhikahlcoaaW.PrintWords Go.Proofs.YtlpfmhikahlcoaaW.PrintLast Go.Proofs.YtlpfmhikahlcoaaW.PrintMore
attribute [local go_sem] max2_int min2_int max_two min_two max_three min_three max_four min_four
set_option linter.unusedVariables false
set_option linter.unusedSimpArgs false
def impl_digits.l0:Nat→Int→ByteArray→Option (ByteArray)
  | 0,_,_=>none
  | k + 1,x0,x3=>if x3.toList=([]:List UInt8) then ((some (([(IntKind.u64.wrap (48 + (Int.tmod x0 10))) % 256]:List Int):List Int)).bind fun y101=>(if (strOfNums y101).size + x3.size≤9223372036854775807 then (impl_digits.l0 k (IntKind.u64.wrap (Int.tdiv x0 10)) ((strOfNums y101) ++ x3)) else (none))) else (if x0 > 0 then ((some (([(IntKind.u64.wrap (48 + (Int.tmod x0 10))) % 256]:List Int):List Int)).bind fun y104=>(if (strOfNums y104).size + x3.size≤9223372036854775807 then (impl_digits.l0 k (IntKind.u64.wrap (Int.tdiv x0 10)) ((strOfNums y104) ++ x3)) else (none))) else (some x3))
def impl_digits.f (k:Nat) (a0:Int):Option (ByteArray):=impl_digits.l0 k a0 (⟨#[]⟩:ByteArray)
set_option maxHeartbeats 8000000 in
set_option maxRecDepth 100000 in
theorem impl_digits.calls (k:Nat) (a0:Int) (r:ByteArray) (w:World) (h:impl_digits.f k a0=some r) :
    Calls Try.prog 131 #[.int .u64 a0] w fun e w'=>e = .returned (.string r)∧Below w.heap.size w w':=by
  have HB:=Aside0.mk (Below.refl w.heap.size w)
  have H:(impl_digits.l0 k a0 (⟨#[]⟩:ByteArray))=some r:=h
  clear h
  have H':=Aside0.mk H
  clear H
  go_enter Try.func131,Try.ntmps131
  go_wp2
  go_loopg [0,3] k (fun kq v0 v3 w'=>∃ (A0:Int) (A1:ByteArray),v0 = .int .u64 A0∧v3 = .string A1∧Aside0 (impl_digits.l0 kq A0 A1=some r)∧Aside0 (kq≤k)∧Aside0 (Below w.heap.size w w'))
  case atStart=>exact ⟨(a0),((⟨#[]⟩:ByteArray)),(by first|rfl|(simp;done)|(simp [*];done)),(by first|rfl|(simp;done)|(simp [*];done)),H',⟨Nat.le_refl _⟩,⟨by exact tb HB⟩⟩
  case round =>
    clear H'
    try clear c1
    obtain ⟨A0,A1,rfl,rfl,HA,HK1,HB⟩:=hrel
    cases gk with
    | zero=>exact absurd HA.out (by simp [impl_digits.l0])
    | succ k1 =>
      have H:=HA.out
      clear HA
      simp only [impl_digits.l0] at H
      by_cases c2:A1.toList=([]:List UInt8)
      · rw [if_pos c2] at H
        have c2b0:(A1.toList == ([]:List UInt8))=true:=beq_iff_eq.mpr c2
        have c2b1:(A1.toList != ([]:List UInt8))=false:=bne_eq_false_iff_eq.mpr c2
        clear c2
        obtain ⟨y101,hy101⟩:∃ y_:List Int,y_=(([(IntKind.u64.wrap (48 + (Int.tmod A0 10))) % 256]:List Int)):=⟨_,rfl⟩
        replace H:(if (strOfNums y101).size + A1.size≤9223372036854775807 then (impl_digits.l0 k1 (IntKind.u64.wrap (Int.tdiv A0 10)) ((strOfNums y101) ++ A1)) else (none))=some r:=by first|(rw [hy101];with_reducible exact H)|(have H2_:=(Option.bind_some _ _).symm.trans H;rw [hy101];with_reducible exact H2_)|(have H2_:=(Option.bind_some _ _).symm.trans H;with_reducible exact H2_)|with_reducible exact H|(rw [hy101];exact H)|exact H
        have Ny101:=Aside0.mk hy101
        clear hy101
        by_cases c3:(strOfNums y101).size + A1.size≤9223372036854775807
        · rw [if_pos c3] at H
          have c3b0:=eq_true c3
          have c3b1:decide ((strOfNums y101).size + A1.size≤9223372036854775807)=true:=decide_eq_true c3
          try have c3b2:(9223372036854775807 < (strOfNums y101).size + A1.size)=False:=eq_false (Nat.not_lt.2 c3)
          have H':=Aside0.mk H
          clear H
          go_wp2_with (first|((with_reducible refine gate_dst (N:=16) rfl ?_);refine Kd.R_lit (Kd.int .u8) _ 5 ?hg (N:=16) ?hd (xs:=([(IntKind.u64.wrap (48 + (Int.tmod A0 10))) % 256]:List Int)) (inner:=[.int .u8 ((IntKind.u64.wrap (48 + (Int.tmod A0 10))) % 256)]) (ok:=fun _=>True) (okp:=fun _=>True) ?hr ?hp (fun _ hk=>hk) trivial (Below.refl _ _) (Nat.le_refl _) (by simp) ?_;(case hd=>rfl);(case hg=>rfl);(case hr=>first|(go_simp;done)|(go_simp;rfl));(case hp=>exact (Reps.one (show Kd.M (Kd.int .u8) _ _ _ ((IntKind.u64.wrap (48 + (Int.tmod A0 10))) % 256) [.int .u8 ((IntKind.u64.wrap (48 + (Int.tmod A0 10))) % 256)] from rfl) (Reps.none _ _)));intro v102 w4 ho5 hb hg_ hnew_;clear hg_ hnew_;(first|rw [← Ny101.out] at ho5|(simp only [Int.reduceToNat] at ho5;rw [← Ny101.out] at ho5));have A2:=Aside0.mk (Kd.R_lower ho5 (below_size (tb HB)));replace HB:=Aside0.mk (below_step (tb HB) hb);clear hb ho5;have hcv6:=own_string (P:=Try.prog) Try.underlying57 Try.underlying5 Try.underlying9 (Kd.own_of_R A2.out)))
          go_roundg k1
          case measure=>have:=HK1.out;omega
          case rel=>exact ⟨(IntKind.u64.wrap (Int.tdiv A0 10)),((strOfNums y101) ++ A1),(by first|rfl|(simp;done)|(simp [*];done)),(by first|rfl|(simp;done)|(simp [*];done)),H',⟨by have:=HK1.out;omega⟩,⟨by exact tb HB⟩⟩
        · rw [if_neg c3] at H
          exact absurd H (by simp)
      · rw [if_neg c2] at H
        have c2b0:(A1.toList == ([]:List UInt8))=false:=beq_eq_false_iff_ne.mpr c2
        have c2b1:(A1.toList != ([]:List UInt8))=true:=bne_iff_ne.mpr c2
        by_cases c7:A0 > 0
        · rw [if_pos c7] at H
          have c7b0:decide (0 < A0)=true:=decide_eq_true c7
          clear c7
          obtain ⟨y104,hy104⟩:∃ y_:List Int,y_=(([(IntKind.u64.wrap (48 + (Int.tmod A0 10))) % 256]:List Int)):=⟨_,rfl⟩
          replace H:(if (strOfNums y104).size + A1.size≤9223372036854775807 then (impl_digits.l0 k1 (IntKind.u64.wrap (Int.tdiv A0 10)) ((strOfNums y104) ++ A1)) else (none))=some r:=by first|(rw [hy104];with_reducible exact H)|(have H2_:=(Option.bind_some _ _).symm.trans H;rw [hy104];with_reducible exact H2_)|(have H2_:=(Option.bind_some _ _).symm.trans H;with_reducible exact H2_)|with_reducible exact H|(rw [hy104];exact H)|exact H
          have Ny104:=Aside0.mk hy104
          clear hy104
          by_cases c8:(strOfNums y104).size + A1.size≤9223372036854775807
          · rw [if_pos c8] at H
            have c8b0:=eq_true c8
            have c8b1:decide ((strOfNums y104).size + A1.size≤9223372036854775807)=true:=decide_eq_true c8
            try have c8b2:(9223372036854775807 < (strOfNums y104).size + A1.size)=False:=eq_false (Nat.not_lt.2 c8)
            have H':=Aside0.mk H
            clear H
            go_wp2_with (first|((with_reducible refine gate_dst (N:=16) rfl ?_);refine Kd.R_lit (Kd.int .u8) _ 5 ?hg (N:=16) ?hd (xs:=([(IntKind.u64.wrap (48 + (Int.tmod A0 10))) % 256]:List Int)) (inner:=[.int .u8 ((IntKind.u64.wrap (48 + (Int.tmod A0 10))) % 256)]) (ok:=fun _=>True) (okp:=fun _=>True) ?hr ?hp (fun _ hk=>hk) trivial (Below.refl _ _) (Nat.le_refl _) (by simp) ?_;(case hd=>rfl);(case hg=>rfl);(case hr=>first|(go_simp;done)|(go_simp;rfl));(case hp=>exact (Reps.one (show Kd.M (Kd.int .u8) _ _ _ ((IntKind.u64.wrap (48 + (Int.tmod A0 10))) % 256) [.int .u8 ((IntKind.u64.wrap (48 + (Int.tmod A0 10))) % 256)] from rfl) (Reps.none _ _)));intro v105 w9 ho10 hb hg_ hnew_;clear hg_ hnew_;(first|rw [← Ny104.out] at ho10|(simp only [Int.reduceToNat] at ho10;rw [← Ny104.out] at ho10));have A3:=Aside0.mk (Kd.R_lower ho10 (below_size (tb HB)));replace HB:=Aside0.mk (below_step (tb HB) hb);clear hb ho10;have hcv11:=own_string (P:=Try.prog) Try.underlying57 Try.underlying5 Try.underlying9 (Kd.own_of_R A3.out)))
            go_roundg k1
            case measure=>have:=HK1.out;omega
            case rel=>exact ⟨(IntKind.u64.wrap (Int.tdiv A0 10)),((strOfNums y104) ++ A1),(by first|rfl|(simp;done)|(simp [*];done)),(by first|rfl|(simp;done)|(simp [*];done)),H',⟨by have:=HK1.out;omega⟩,⟨by exact tb HB⟩⟩
          · rw [if_neg c8] at H
            exact absurd H (by simp)
        · rw [if_neg c7] at H
          have c7b0:decide (0 < A0)=false:=decide_eq_false c7
          clear c7
          obtain rfl:=Option.some.inj H
          go_wp2
          go_ret
          exact ⟨er,tb HB⟩
def impl_decimal.f (k:Nat) (a0:Int):Option (ByteArray):=if a0 < 0 then ((impl_digits.f k (IntKind.u64.wrap ((IntKind.u64.wrap (wrap64 (-(wrap64 (a0 + 1))))) + 1))).bind fun A0=>(if 1 + A0.size≤9223372036854775807 then (some ((⟨#[45]⟩:ByteArray) ++ A0)) else (none))) else ((impl_digits.f k (IntKind.u64.wrap (a0))).bind fun A1=>(some A1))
set_option maxHeartbeats 8000000 in
set_option maxRecDepth 100000 in
theorem impl_decimal.calls (k:Nat) (a0:Int) (r:ByteArray) (w:World) (h:impl_decimal.f k a0=some r) :
    Calls Try.prog 122 #[.int .i64 a0] w fun e w'=>e = .returned (.string r)∧Below w.heap.size w w':=by
  have HB:=Aside0.mk (Below.refl w.heap.size w)
  have H:(if a0 < 0 then ((impl_digits.f k (IntKind.u64.wrap ((IntKind.u64.wrap (wrap64 (-(wrap64 (a0 + 1))))) + 1))).bind fun A0=>(if 1 + A0.size≤9223372036854775807 then (some ((⟨#[45]⟩:ByteArray) ++ A0)) else (none))) else ((impl_digits.f k (IntKind.u64.wrap (a0))).bind fun A1=>(some A1)))=some r:=h
  clear h
  by_cases c2:a0 < 0
  · rw [if_pos c2] at H
    have c2b0:decide (a0 < 0)=true:=decide_eq_true c2
    clear c2
    replace H:=Option.bind_eq_some_iff.mp H
    obtain ⟨A0,A30,H⟩:=H
    replace H:(if 1 + A0.size≤9223372036854775807 then (some ((⟨#[45]⟩:ByteArray) ++ A0)) else (none))=some r:=H
    have A3:=Aside0.mk A30
    clear A30
    by_cases c4:1 + A0.size≤9223372036854775807
    · rw [if_pos c4] at H
      have c4b0:=eq_true c4
      have c4b1:decide (1 + A0.size≤9223372036854775807)=true:=decide_eq_true c4
      try have c4b2:(9223372036854775807 < 1 + A0.size)=False:=eq_false (Nat.not_lt.2 c4)
      obtain rfl:=Option.some.inj H
      go_enter Try.func122,Try.ntmps122
      go_wp2_with (first|((with_reducible refine gate_callee (f:=131) rfl ?_);refine goesL_ (some 10) rfl rfl Try.func131 (by kernel_rfl) rfl #[.int .u64 (IntKind.u64.wrap ((IntKind.u64.wrap (wrap64 (-(wrap64 (a0 + 1))))) + 1))] rfl ml ?_;(with_reducible refine (impl_digits.calls k (IntKind.u64.wrap ((IntKind.u64.wrap (wrap64 (-(wrap64 (a0 + 1))))) + 1)) A0 _ A3.out).mono ?_);rintro e w5 ⟨rfl,hb⟩;refine ⟨_,rfl,?_⟩;replace HB:=Aside0.mk (below_step (tb HB) hb);(try clear hb);(try clear hb2);(try clear hk);(try clear hi)))
      go_ret
      exact ⟨er,tb HB⟩
    · rw [if_neg c4] at H
      exact absurd H (by simp)
  · rw [if_neg c2] at H
    have c2b0:decide (a0 < 0)=false:=decide_eq_false c2
    clear c2
    replace H:=Option.bind_eq_some_iff.mp H
    obtain ⟨A1,A60,H⟩:=H
    replace H:(some A1)=some r:=H
    have A6:=Aside0.mk A60
    clear A60
    obtain rfl:=Option.some.inj H
    go_enter Try.func122,Try.ntmps122
    go_wp2_with (first|((with_reducible refine gate_callee (f:=131) rfl ?_);refine goesL_ (some 14) rfl rfl Try.func131 (by kernel_rfl) rfl #[.int .u64 (IntKind.u64.wrap (a0))] rfl ml ?_;(with_reducible refine (impl_digits.calls k (IntKind.u64.wrap (a0)) A1 _ A6.out).mono ?_);rintro e w7 ⟨rfl,hb⟩;refine ⟨_,rfl,?_⟩;replace HB:=Aside0.mk (below_step (tb HB) hb);(try clear hb);(try clear hb2);(try clear hk);(try clear hi)))
    go_ret
    exact ⟨er,tb HB⟩
def impl_Table_key.f (k:Nat) (A4:Int) (A3:ByteArray):Option (ByteArray):=(impl_decimal.f k A4).bind fun A0=>(if A0.size + 1≤9223372036854775807 then (if A0.size + 1 + A3.size≤9223372036854775807 then (some ((A0 ++ (⟨#[58]⟩:ByteArray)) ++ A3)) else (none)) else (none))
def impl_Table_key.T1:Bool × List (List Nat × List Nat):=(true,[([],[]),([0],[0]),([1],[1]),([2],[2]),([],[]),([4],[4]),([3,5],[3,5]),([6,2,0,1,2,3,4,5,6],[6])])
def impl_Table_key.B1:List Nat:=[0,1,3,7,0,16,63,127]
theorem impl_Table_key.tab1:rtab .any (opsOf Try.f129 1)=impl_Table_key.T1:=by kernel_rfl
theorem impl_Table_key.bits1:waitsOk impl_Table_key.T1.2 impl_Table_key.B1=true:=by kernel_rfl
set_option maxHeartbeats 8000000 in
set_option maxRecDepth 100000 in
theorem impl_Table_key.calls (k:Nat) (A4:Int) (A3:ByteArray) (r:ByteArray) (w:World) (h:impl_Table_key.f k A4 A3=some r) :
    Calls Try.prog 129 #[.agg #[.int .i64 A4,.string A3]] w fun e w'=>e = .returned (.string r)∧Below w.heap.size w w':=by
  have hu29:=Try.underlying29
  have HB:=Aside0.mk (Below.refl w.heap.size w)
  have H:((impl_decimal.f k A4).bind fun A0=>(if A0.size + 1≤9223372036854775807 then (if A0.size + 1 + A3.size≤9223372036854775807 then (some ((A0 ++ (⟨#[58]⟩:ByteArray)) ++ A3)) else (none)) else (none)))=some r:=h
  clear h
  replace H:=Option.bind_eq_some_iff.mp H
  obtain ⟨A0,A20,H⟩:=H
  replace H:(if A0.size + 1≤9223372036854775807 then (if A0.size + 1 + A3.size≤9223372036854775807 then (some ((A0 ++ (⟨#[58]⟩:ByteArray)) ++ A3)) else (none)) else (none))=some r:=H
  have A2:=Aside0.mk A20
  clear A20
  by_cases c3:A0.size + 1≤9223372036854775807
  · rw [if_pos c3] at H
    have c3b0:=eq_true c3
    have c3b1:decide (A0.size + 1≤9223372036854775807)=true:=decide_eq_true c3
    try have c3b2:(9223372036854775807 < A0.size + 1)=False:=eq_false (Nat.not_lt.2 c3)
    by_cases c4:A0.size + 1 + A3.size≤9223372036854775807
    · rw [if_pos c4] at H
      have c4b0:=eq_true c4
      have c4b1:decide (A0.size + 1 + A3.size≤9223372036854775807)=true:=decide_eq_true c4
      try have c4b2:(9223372036854775807 < A0.size + 1 + A3.size)=False:=eq_false (Nat.not_lt.2 c4)
      obtain rfl:=Option.some.inj H
      go_enter Try.func129,Try.ntmps129
      try go_wp2_with (first|((with_reducible refine gate_dst (N:=1) rfl ?_);refine bx (N:=1) (cs:=#[.int .i64 A4,.string A3]) (t:=29) ?_;intro A5 hg w5 hbox hb;have A1:=Aside0.mk (hbox);have GW101:=Aside0.mk ((by rw [hg];exact (below_size (tb HB)):w.heap.size≤A5));have GE101:=Aside0.mk ((by rw [hg];exact (below_size (tb HB)):w.heap.size≤A5));replace HB:=Aside0.mk (below_step (tb HB) hb);clear hb hbox hg))
      have n0_:=Aside0.mk (blk_drew A1.out)
      have n1_:=Aside0.mk (below_drew1 HB.out)
      clear A1
      clear HB
      have A1:=n0_
      have HB:=n1_
      clear n0_ n1_
      refine start_ (n:=8) (S:=fun w'=>w'.cell? ⟨A5,0,none⟩=some (.int .i64 A4)∧w'.cell? ⟨A5,1,none⟩=some (.string A3)) (ds:=[]) #[false,false,false,false,false,false,false,false] (by kernel_rfl) rfl rfl ⟨(blk_cell A1.out 0).trans rfl,(blk_cell A1.out 1).trans rfl⟩ (fun hHeld=>?_);refine with_tabW impl_Table_key.tab1 impl_Table_key.bits1 (fun HT_ HW_=>?_)
      generalize w5.drew=w6 at A1 HB hHeld ⊢
      refine pure_ (i:=0) (N:=some 3) (v:=?_) (a':=?_) #[true,false,false,false,false,false,false,false] rfl rfl (any_of HT_.out (by kernel_rfl)) (fun _ _ _ h=>h) (Or.inl ⟨by rfl,?_⟩) ?_ ?_
      rotate_left
      · intro w'
        go_simp
        with_reducible rfl
      rotate_left
      · simp only [Act.put,List.setIfInBounds_toArray,List.set_cons_zero,List.set_cons_succ,i64_w,i32_w]
        rfl
      refine pure_ (i:=4) (N:=some 7) (v:=?_) (a':=?_) #[true,false,false,false,true,false,false,false] rfl rfl (any_of HT_.out (by kernel_rfl)) (fun _ _ _ h=>h) (Or.inl ⟨by rfl,?_⟩) ?_ ?_
      rotate_left
      · intro w'
        go_simp
        with_reducible rfl
      rotate_left
      · simp only [Act.put,List.setIfInBounds_toArray,List.set_cons_zero,List.set_cons_succ,i64_w,i32_w]
        rfl
      refine take_ (i:=1) (N:=some 4) (v:=?_) (a':=?_) #[true,true,false,false,true,false,false,false] rfl rfl (take_ofW HT_.out HW_.out (by kernel_rfl)) (fun _ _ _ h=>h) (Or.inl ⟨by rfl,?_⟩) hHeld ?_ ?_
      rotate_left
      · rintro w' ⟨s0,s1⟩
        go_simp
        with_reducible rfl
      rotate_left
      · simp only [Act.put,List.setIfInBounds_toArray,List.set_cons_zero,List.set_cons_succ,i64_w,i32_w]
        rfl
      refine take_ (i:=5) (N:=some 8) (v:=?_) (a':=?_) #[true,true,false,false,true,true,false,false] rfl rfl (take_ofW HT_.out HW_.out (by kernel_rfl)) (fun _ _ _ h=>h) (Or.inl ⟨by rfl,?_⟩) hHeld ?_ ?_
      rotate_left
      · rintro w' ⟨s0,s1⟩
        go_simp
        with_reducible rfl
      rotate_left
      · simp only [Act.put,List.setIfInBounds_toArray,List.set_cons_zero,List.set_cons_succ,i64_w,i32_w]
        rfl
      refine one_ (i:=2) (N:=some 5) #[true,true,true,false,true,true,false,false] rfl rfl (one_of HT_.out (by kernel_rfl)) (by decide) (fun K hK=>?_)
      refine goes_ Try.func122 (by kernel_rfl) rfl #[.int .i64 A4] (by rfl) rfl rfl ml ?_
      with_reducible refine (impl_decimal.calls k A4 A0 _ A2.out).mono ?_
      rintro e w7 ⟨rfl,hb⟩
      refine ⟨_,rfl,?_⟩
      have n0_:=Aside0.mk (blk_below (g:=A5) (o := .cells #[.int .i64 A4,.string A3] 29 (0,0)) (dr A1) hb)
      have n1_:=Aside0.mk (below_step (tb HB) hb)
      clear A1
      clear HB
      have A1:=n0_
      have HB:=n1_
      clear n0_ n1_
      (try clear hb)
      (try clear hb2)
      (try clear hk)
      (try clear hi)
      refine hK.out _ _ ⟨(blk_cell A1.out 0).trans rfl,(blk_cell A1.out 1).trans rfl⟩ (fun hHeld=>?_)
      clear hK K
      refine norm_ (a':=?_) ?_ ?_
      rotate_left
      · show Act.put _ (some 5) _=_
        simp only [Act.put,List.setIfInBounds_toArray,List.set_cons_zero,List.set_cons_succ,i64_w,i32_w]
        rfl
      refine pure_ (i:=3) (N:=some 6) (v:=?_) (a':=?_) #[true,true,true,true,true,true,false,false] rfl rfl (any_of HT_.out (by kernel_rfl)) (fun _ _ _ h=>h) (Or.inl ⟨by rfl,?_⟩) ?_ ?_
      rotate_left
      · intro w'
        go_simp
        with_reducible rfl
      rotate_left
      · simp only [Act.put,List.setIfInBounds_toArray,List.set_cons_zero,List.set_cons_succ,i64_w,i32_w]
        rfl
      refine pure_ (i:=6) (N:=some 9) (v:=?_) (a':=?_) #[true,true,true,true,true,true,true,false] rfl rfl (any_of HT_.out (by kernel_rfl)) (fun _ _ _ h=>h) (Or.inl ⟨by rfl,?_⟩) ?_ ?_
      rotate_left
      · intro w'
        go_simp
        with_reducible rfl
      rotate_left
      · simp only [Act.put,List.setIfInBounds_toArray,List.set_cons_zero,List.set_cons_succ,i64_w,i32_w]
        rfl
      refine pure_ (i:=7) (N:=some 2) (v:=?_) (a':=?_) #[true,true,true,true,true,true,true,true] rfl rfl (any_of HT_.out (by kernel_rfl)) (fun _ _ _ h=>h) (Or.inl ⟨by rfl,?_⟩) ?_ ?_
      rotate_left
      · intro w'
        go_simp
        with_reducible rfl
      rotate_left
      · simp only [Act.put,List.setIfInBounds_toArray,List.set_cons_zero,List.set_cons_succ,i64_w,i32_w]
        rfl
      refine done_ (done_of HT_.out (by kernel_rfl)) ?_
      try go_wp2
      go_ret
      exact ⟨er,tb HB⟩
    · rw [if_neg c4] at H
      exact absurd H (by simp)
  · rw [if_neg c3] at H
    exact absurd H (by simp)
def impl_bit.f (a0:Bool):Option (Int):=if a0=true then (some 1) else (some 0)
set_option maxHeartbeats 8000000 in
set_option maxRecDepth 100000 in
theorem impl_bit.calls (a0:Bool) (r:Int) (w:World) (h:impl_bit.f a0=some r) :
    Calls Try.prog 99 #[.bool a0] w fun e w'=>e = .returned (.int .i64 r)∧Drawn0 w w':=by
  have H:(if a0=true then (some 1) else (some 0))=some r:=h
  clear h
  by_cases c2:a0=true
  · subst c2
    have H1:(some 1)=some r:=by rw [if_pos rfl] at H;exact H
    clear H
    have H:=H1
    clear H1
    obtain rfl:=Option.some.inj H
    go_enter Try.func99,Try.ntmps99
    go_wp2
    go_ret
    exact ⟨by first|rfl|(simp;done)|(simp [*];done),by repeat (first|exact Drawn0.refl _|apply Drawn0.step)⟩
  · replace c2:=Bool.eq_false_iff.mpr c2
    subst c2
    have H1:(some 0)=some r:=by rw [if_neg (show ¬ (false=true) by decide)] at H;exact H
    clear H
    have H:=H1
    clear H1
    obtain rfl:=Option.some.inj H
    go_enter Try.func99,Try.ntmps99
    go_wp2
    go_ret
    exact ⟨by first|rfl|(simp;done)|(simp [*];done),by repeat (first|exact Drawn0.refl _|apply Drawn0.step)⟩
end Go.Proofs.Ytlpfmhikahlcoaa.G
namespace Go.Proofs
open Go.Shelf
def Try.lays144_ren:Go.Shelf.Ren:=⟨fun|144=>125|143=>132|219=>136|217=>137|225=>138|224=>139|267=>140|266=>141|314=>142|n=>n,fun|9=>9|4=>4|3=>3|5=>5|46=>132|146=>153|51=>152|n=>n,fun|1=>0|n=>n⟩
theorem Try.lays144:Go.Proofs.Lays.n144 Try.prog Try.lays144_ren:={
  mixed:=by kernel_rfl
  f143:=Try.func132.trans (congrArg some (by kernel_rfl))
  f144:=Try.func125.trans (congrArg some (by kernel_rfl))
  f217:=Try.func137.trans (congrArg some (by kernel_rfl))
  f219:=Try.func136.trans (congrArg some (by kernel_rfl))
  f224:=Try.func139.trans (congrArg some (by kernel_rfl))
  f225:=Try.func138.trans (congrArg some (by kernel_rfl))
  f266:=Try.func141.trans (congrArg some (by kernel_rfl))
  f267:=Try.func140.trans (congrArg some (by kernel_rfl))
  f314:=Try.func142.trans (congrArg some (by kernel_rfl))
  t3:=Try.underlying3
  a3:=Try.isAgg3
  z3:=Try.sizeOf3
  v3:=Try.zeroValue3
  t4:=Try.underlying4
  a4:=Try.isAgg4
  z4:=Try.sizeOf4
  v4:=Try.zeroValue4
  t5:=Try.underlying5
  a5:=Try.isAgg5
  z5:=Try.sizeOf5
  v5:=Try.zeroValue5
  t9:=Try.underlying9
  a9:=Try.isAgg9
  z9:=Try.sizeOf9
  v9:=Try.zeroValue9
  t46:=Try.underlying132
  a46:=Try.isAgg132
  z46:=Try.sizeOf132
  v46:=Try.zeroValue132
  t51:=Try.underlying152
  a51:=Try.isAgg152
  z51:=Try.sizeOf152
  v51:=Try.zeroValue152
  t146:=Try.underlying153
  a146:=Try.isAgg153
  z146:=Try.sizeOf153
  v146:=Try.zeroValue153
  g1:=by kernel_rfl }
open Go.RowKit Go.Lib in
theorem Try.strings_Contains_one (s:ByteArray) (c:UInt8) (w:World) :
    Calls Try.prog 125 #[.string s,.string ⟨#[c]⟩] w fun e w'=>e = .returned (.bool (decide (0≤Lib.indexByte s.data.toList c)))∧w'=w:=Any.strings_Contains_one Try.lays144 s c w
end Go.Proofs
namespace Go.Proofs.Ytlpfmhikahlcoaa.G
open Go.Proofs.Ytlpfmhikahlcoaa.Sh
open Go.RowKit Go.Proofs.YtlpfmhikahlcoaaW.PrintWords Go.Proofs.YtlpfmhikahlcoaaW.PrintLast Go.Proofs.YtlpfmhikahlcoaaW.PrintMore
attribute [local go_sem] max2_int min2_int max_two min_two max_three min_three max_four min_four
set_option linter.unusedVariables false
set_option linter.unusedSimpArgs false
def strings_Contains.f (a0:ByteArray) (a1:ByteArray):Option Bool:=match a1 with
  | ⟨⟨[c]⟩⟩=>some (a0.data.toList.contains c)
  | _=>none
theorem strings_Contains.calls (a0:ByteArray) (a1:ByteArray) (r:Bool) (w:World) (h:strings_Contains.f a0 a1=some r) :
    Calls Try.prog 125 #[.string a0,.string a1] w fun e w'=>e = .returned (.bool r)∧Drawn0 w w':=by
  unfold strings_Contains.f at h
  split at h
  · rename_i c
    obtain rfl:=Option.some.inj h
    refine (Try.strings_Contains_one a0 c w).mono fun e w' hh=>?_
    obtain ⟨rfl,rfl⟩:=hh
    exact ⟨by rw [Go.Lib.contains_iff_indexByte],Drawn0.refl _⟩
  · cases h
def impl_Table_known.f (Aa:Int) (A0:ByteArray):Option (Int):=(strings_Contains.f A0 (⟨#[49]⟩:ByteArray)).bind fun A6=>(if A6=true then ((strings_Contains.f A0 (⟨#[48]⟩:ByteArray)).bind fun A7=>(if A7=true then (some (-1)) else ((impl_bit.f A6).bind fun A1=>(some A1)))) else ((impl_bit.f A6).bind fun A9=>(some A9)))
set_option maxHeartbeats 8000000 in
set_option maxRecDepth 100000 in
theorem impl_Table_known.calls (Aa:Int) (A0:ByteArray) (r:Int) (w:World) (h:impl_Table_known.f Aa A0=some r) :
    Calls Try.prog 107 #[.agg #[.int .i64 Aa,.string A0]] w fun e w'=>e = .returned (.int .i64 r)∧Below w.heap.size w w':=by
  have hu29:=Try.underlying29
  have HB:=Aside0.mk (Below.refl w.heap.size w)
  have H:((strings_Contains.f A0 (⟨#[49]⟩:ByteArray)).bind fun A6=>(if A6=true then ((strings_Contains.f A0 (⟨#[48]⟩:ByteArray)).bind fun A7=>(if A7=true then (some (-1)) else ((impl_bit.f A6).bind fun A1=>(some A1)))) else ((impl_bit.f A6).bind fun A9=>(some A9))))=some r:=h
  clear h
  replace H:=Option.bind_eq_some_iff.mp H
  obtain ⟨A6,A20,H⟩:=H
  replace H:(if A6=true then ((strings_Contains.f A0 (⟨#[48]⟩:ByteArray)).bind fun A7=>(if A7=true then (some (-1)) else ((impl_bit.f A6).bind fun A1=>(some A1)))) else ((impl_bit.f A6).bind fun A9=>(some A9)))=some r:=H
  have A2:=Aside0.mk A20
  clear A20
  by_cases c3:A6=true
  · subst c3
    have H1:((strings_Contains.f A0 (⟨#[48]⟩:ByteArray)).bind fun A7=>(if A7=true then (some (-1)) else ((impl_bit.f true).bind fun A1=>(some A1))))=some r:=by rw [if_pos rfl] at H;exact H
    clear H
    have H:=H1
    clear H1
    replace H:=Option.bind_eq_some_iff.mp H
    obtain ⟨A7,A40,H⟩:=H
    replace H:(if A7=true then (some (-1)) else ((impl_bit.f true).bind fun A1=>(some A1)))=some r:=H
    have A4:=Aside0.mk A40
    clear A40
    by_cases c5:A7=true
    · subst c5
      have H1:(some (-1))=some r:=by rw [if_pos rfl] at H;exact H
      clear H
      have H:=H1
      clear H1
      obtain rfl:=Option.some.inj H
      go_enter Try.func107,Try.ntmps107
      go_wp2_with (first|((with_reducible refine gate_dst (N:=1) rfl ?_);refine bx (N:=1) (cs:=#[.int .i64 Aa,.string A0]) (t:=29) ?_;intro A3 hg w6 hbox hb;have A5:=Aside0.mk (hbox);have Ab:=Aside0.mk ((by rw [hg];exact (below_size (tb HB)):w.heap.size≤A3));have Ac:=Aside0.mk ((by rw [hg];exact (below_size (tb HB)):w.heap.size≤A3));replace HB:=Aside0.mk (below_step (tb HB) hb);clear hb hbox hg;have hcz7__:=c2_ A5;have hfz7__:=f_ A5)|((with_reducible refine gate_callee (f:=125) rfl ?_);refine goesL_ (some 6) rfl rfl Try.func125 (by kernel_rfl) rfl #[.string A0,.string (⟨#[49]⟩:ByteArray)] rfl ml ?_;(with_reducible refine (strings_Contains.calls A0 (⟨#[49]⟩:ByteArray) true _ A2.out).mono ?_);rintro e w' ⟨rfl,⟨nd,rfl⟩⟩;refine ⟨_,rfl,?_⟩)|(go_at_call 125;(try simp only [i64_w,i32_w]);(with_reducible refine (strings_Contains.calls A0 (⟨#[48]⟩:ByteArray) true _ A4.out).mono ?_);rintro e w' ⟨rfl,⟨nd,rfl⟩⟩))
      go_ret
      exact ⟨er,tb HB⟩
    · replace c5:=Bool.eq_false_iff.mpr c5
      subst c5
      have H1:((impl_bit.f true).bind fun A1=>(some A1))=some r:=by rw [if_neg (show ¬ (false=true) by decide)] at H;exact H
      clear H
      have H:=H1
      clear H1
      replace H:=Option.bind_eq_some_iff.mp H
      obtain ⟨A1,A80,H⟩:=H
      replace H:(some A1)=some r:=H
      have A8:=Aside0.mk A80
      clear A80
      obtain rfl:=Option.some.inj H
      go_enter Try.func107,Try.ntmps107
      go_wp2_with (first|((with_reducible refine gate_dst (N:=1) rfl ?_);refine bx (N:=1) (cs:=#[.int .i64 Aa,.string A0]) (t:=29) ?_;intro A3 hg w9 hbox hb;have A5:=Aside0.mk (hbox);have Ab:=Aside0.mk ((by rw [hg];exact (below_size (tb HB)):w.heap.size≤A3));have Ac:=Aside0.mk ((by rw [hg];exact (below_size (tb HB)):w.heap.size≤A3));replace HB:=Aside0.mk (below_step (tb HB) hb);clear hb hbox hg;have hcz10__:=c2_ A5;have hfz10__:=f_ A5)|((with_reducible refine gate_callee (f:=125) rfl ?_);refine goesL_ (some 6) rfl rfl Try.func125 (by kernel_rfl) rfl #[.string A0,.string (⟨#[49]⟩:ByteArray)] rfl ml ?_;(with_reducible refine (strings_Contains.calls A0 (⟨#[49]⟩:ByteArray) true _ A2.out).mono ?_);rintro e w' ⟨rfl,⟨nd,rfl⟩⟩;refine ⟨_,rfl,?_⟩)|(go_at_call 125;(try simp only [i64_w,i32_w]);(with_reducible refine (strings_Contains.calls A0 (⟨#[48]⟩:ByteArray) false _ A4.out).mono ?_);rintro e w' ⟨rfl,⟨nd,rfl⟩⟩)|((with_reducible refine gate_callee (f:=99) rfl ?_);refine goesL_ (some 14) rfl rfl Try.func99 (by kernel_rfl) rfl #[.bool true] rfl ml ?_;(with_reducible refine (impl_bit.calls true A1 _ A8.out).mono ?_);rintro e w' ⟨rfl,⟨nd,rfl⟩⟩;refine ⟨_,rfl,?_⟩))
      go_ret
      exact ⟨er,tb HB⟩
  · replace c3:=Bool.eq_false_iff.mpr c3
    subst c3
    have H1:((impl_bit.f false).bind fun A9=>(some A9))=some r:=by rw [if_neg (show ¬ (false=true) by decide)] at H;exact H
    clear H
    have H:=H1
    clear H1
    replace H:=Option.bind_eq_some_iff.mp H
    obtain ⟨A9,A110,H⟩:=H
    replace H:(some A9)=some r:=H
    have A11:=Aside0.mk A110
    clear A110
    obtain rfl:=Option.some.inj H
    go_enter Try.func107,Try.ntmps107
    go_wp2_with (first|((with_reducible refine gate_dst (N:=1) rfl ?_);refine bx (N:=1) (cs:=#[.int .i64 Aa,.string A0]) (t:=29) ?_;intro A3 hg w12 hbox hb;have A5:=Aside0.mk (hbox);have Ab:=Aside0.mk ((by rw [hg];exact (below_size (tb HB)):w.heap.size≤A3));have Ac:=Aside0.mk ((by rw [hg];exact (below_size (tb HB)):w.heap.size≤A3));replace HB:=Aside0.mk (below_step (tb HB) hb);clear hb hbox hg;have hcz13__:=c2_ A5;have hfz13__:=f_ A5)|((with_reducible refine gate_callee (f:=125) rfl ?_);refine goesL_ (some 6) rfl rfl Try.func125 (by kernel_rfl) rfl #[.string A0,.string (⟨#[49]⟩:ByteArray)] rfl ml ?_;(with_reducible refine (strings_Contains.calls A0 (⟨#[49]⟩:ByteArray) false _ A2.out).mono ?_);rintro e w' ⟨rfl,⟨nd,rfl⟩⟩;refine ⟨_,rfl,?_⟩)|((with_reducible refine gate_callee (f:=99) rfl ?_);refine goesL_ (some 14) rfl rfl Try.func99 (by kernel_rfl) rfl #[.bool false] rfl ml ?_;(with_reducible refine (impl_bit.calls false A9 _ A11.out).mono ?_);rintro e w' ⟨rfl,⟨nd,rfl⟩⟩;refine ⟨_,rfl,?_⟩))
    go_ret
    exact ⟨er,tb HB⟩
def impl_copyInts.f (l0:List Int):Option (List Int):=if ([]:List Int).length + l0.length < 17592186044416 then (some (([]:List Int) ++ l0)) else (none)
set_option maxHeartbeats 8000000 in
set_option maxRecDepth 100000 in
theorem impl_copyInts.calls (A0:Option Addr) (c0:Nat) (l0:List Int) (r:List Int) (w:World) (hr0:Kd.C (Kd.int .i64) w A0 l0.length l0) (hc0:l0.length≤c0) (h:impl_copyInts.f l0=some r) :
    Calls Try.prog 115 #[.slice A0 l0.length c0] w fun e w'=>∃ v0_:Value,e = .returned (v0_)∧Kd.R (Kd.int .i64) 3 w' w.heap.size (fun _=>True) v0_ r∧Below w.heap.size w w':=by
  have HR0:=Aside0.mk hr0
  have HC0:=Aside0.mk hc0
  clear hr0 hc0
  have HB:=Aside0.mk (Below.refl w.heap.size w)
  have H:(if ([]:List Int).length + l0.length < 17592186044416 then (some (([]:List Int) ++ l0)) else (none))=some r:=h
  clear h
  by_cases c2:([]:List Int).length + l0.length < 17592186044416
  · rw [if_pos c2] at H
    have LMc2:=Aside0.mk c2
    clear c2
    obtain ⟨y101,hy101⟩:∃ y_:List Int,y_=(([]:List Int) ++ l0):=⟨_,rfl⟩
    replace H:(some y101)=some r:=by first|(rw [hy101];with_reducible exact H)|(have H2_:=(Option.bind_some _ _).symm.trans H;rw [hy101];with_reducible exact H2_)|(have H2_:=(Option.bind_some _ _).symm.trans H;with_reducible exact H2_)|with_reducible exact H|(rw [hy101];exact H)|exact H
    have Ny101:=Aside0.mk hy101
    clear hy101
    obtain rfl:=Option.some.inj H
    go_enter Try.func115,Try.ntmps115
    go_wp2_with (first|((with_reducible refine gate_builtin (b := .append) (xs:=#[.const (.slice none 0 0),.tmp 3]) rfl ?_);at_builtin;refine Kd.R_append_rows (Kd.int .i64) (w0:=w) w.heap.size rfl (.const (.slice none 0 0)) (.tmp 3) 33 3 (.int .i64 0) 8 rfl Try.underlying33 info3 rfl (by decide) (by omega) (.slice none 0 0) ([]:List Int) l0 _ _ _ (fun _=>True) (fun _=>False) rfl rfl ?aO ?aR (fun _ _ h=>h) (fun _ h=>h.elim) ?aF ?aB ?aS ?aL ?_;(case aR=>exact cw HR0.out);(case aB=>exact (tb HB));(case aF=>exact (fun _ _=>trivial));(case aO=>exact ((Kd.R_nil _ _ _ _ (fun _=>True))));(case aS=>exact (below_size (tb HB)));(case aL=>have:=LMc2.out;omega);intro v102 w3 ho hb hg hat;rw [← Ny101.out] at ho;replace HB:=Aside0.mk (hb);have A1:=Aside0.mk (ho);clear ho hb hg hat))
    go_ret
    exact ⟨_,er,ra A1,tb HB⟩
  · rw [if_neg c2] at H
    exact absurd H (by simp)
end Go.Proofs.Ytlpfmhikahlcoaa.G
namespace Go.Proofs.Ytlpfmhikahlcoaa.G
open Go.Proofs.Ytlpfmhikahlcoaa.Sh Go.RowKit Go.Proofs.YtlpfmhikahlcoaaW.PrintWords Go.Proofs.YtlpfmhikahlcoaaW.PrintLast Go.Proofs.YtlpfmhikahlcoaaW.PrintMore
attribute [local go_sem] max2_int min2_int max_two min_two max_three min_three max_four min_four
set_option linter.unusedVariables false
set_option linter.unusedSimpArgs false
def impl_copyMachine.f (Ad:List Bool) (A2:Int) (A4:ByteArray) (A5:Int) (Ae:List Int) (A6:Int) (A7:Bool) (A9:Int) (Aa:Int) (Af:Int) (A1:List (S86)):Option (List Bool × Int × ByteArray × Int × List Int × Int × Bool × Int × Int × Int × (List (S86))):=if ([]:List Bool).length + Ad.length < 140737488355328 then ((impl_copyInts.f Ae).bind fun Ab=>(if ([]:List (S86)).length + A1.length < 5864062014805 then (some ((([]:List Bool) ++ Ad),A2,A4,A5,Ab,A6,A7,A9,Aa,Af,(([]:List (S86)) ++ A1))) else (none))) else (none)
set_option maxHeartbeats 80000000 in
set_option maxRecDepth 100000 in
theorem impl_copyMachine.calls (As:Option Addr) (At:Nat) (Ad:List Bool) (A2:Int) (A4:ByteArray) (A5:Int) (Al:Option Addr) (Am:Nat) (Ae:List Int) (A6:Int) (A7:Bool) (A9:Int) (Aa:Int) (Af:Int) (Ai:Option Addr) (Aj:Nat) (A1:List (S86)) (r1:List Bool) (r2:Int) (r3:ByteArray) (r4:Int) (r5:List Int) (r6:Int) (r7:Bool) (r8:Int) (r9:Int) (r10:Int) (r11:List (S86)) (w:World) (hr0_0:Kd.C Kd.bool w As Ad.length Ad) (hc0_0:Ad.length≤At) (hr0_4:Kd.C (Kd.int .i64) w Al Ae.length Ae) (hc0_4:Ae.length≤Am) (hr0_10:Kd.C k86 w Ai A1.length A1) (hc0_10:A1.length≤Aj) (h:impl_copyMachine.f Ad A2 A4 A5 Ae A6 A7 A9 Aa Af A1=some (r1,r2,r3,r4,r5,r6,r7,r8,r9,r10,r11)) :
  Calls Try.prog 83 #[.agg #[.slice As Ad.length At,.int .i64 A2,.string A4,.int .i64 A5,.slice Al Ae.length Am,.int .i64 A6,.bool A7,.int .i64 A9,.int .i64 Aa,.int .i64 Af,.slice Ai A1.length Aj]] w fun e w'=>∃ v0_ v4_ v10_:Value,e = .returned (.agg #[v0_,.int .i64 r2,.string r3,.int .i64 r4,v4_,.int .i64 r6,.bool r7,.int .i64 r8,.int .i64 r9,.int .i64 r10,v10_])∧Kd.R Kd.bool 4 w' w.heap.size (fun _=>True) v0_ r1∧Kd.R (Kd.int .i64) 3 w' w.heap.size (fun _=>True) v4_ r5∧Kd.R k86 86 w' w.heap.size (fun _=>True) v10_ r11∧Below w.heap.size w w':=by
 have hu36:=Try.underlying36;have Ay:=Aside0.mk hr0_0;have HC0_0:=Aside0.mk hc0_0;clear hr0_0 hc0_0;have Az:=Aside0.mk hr0_4;have B0:=Aside0.mk hc0_4;clear hr0_4 hc0_4;have Ax:=Aside0.mk hr0_10;have HC0_10:=Aside0.mk hc0_10;clear hr0_10 hc0_10;have HB:=Aside0.mk (Below.refl w.heap.size w)
 have H:(if ([]:List Bool).length + Ad.length < 140737488355328 then ((impl_copyInts.f Ae).bind fun Ab=>(if ([]:List (S86)).length + A1.length < 5864062014805 then (some ((([]:List Bool) ++ Ad),A2,A4,A5,Ab,A6,A7,A9,Aa,Af,(([]:List (S86)) ++ A1))) else (none))) else (none))=some (r1,r2,r3,r4,r5,r6,r7,r8,r9,r10,r11):=h
 clear h
 by_cases c2:([]:List Bool).length + Ad.length < 140737488355328
 ·rw [if_pos c2] at H
  have LMc2:=Aside0.mk c2;clear c2
  obtain ⟨y103,hy103⟩:∃ y_:List Bool,y_=(([]:List Bool) ++ Ad):=⟨_,rfl⟩
  replace H:((impl_copyInts.f Ae).bind fun Ab=>(if ([]:List (S86)).length + A1.length < 5864062014805 then (some (y103,A2,A4,A5,Ab,A6,A7,A9,Aa,Af,(([]:List (S86)) ++ A1))) else (none)))=some (r1,r2,r3,r4,r5,r6,r7,r8,r9,r10,r11):=by first|(rw [hy103];with_reducible exact H)|(have H2_:=(Option.bind_some _ _).symm.trans H;rw [hy103];with_reducible exact H2_)|(have H2_:=(Option.bind_some _ _).symm.trans H;with_reducible exact H2_)|with_reducible exact H|(rw [hy103];exact H)|exact H
  have Ny103:=Aside0.mk hy103;clear hy103
  replace H:=Option.bind_eq_some_iff.mp H
  obtain ⟨Ab,A30,H⟩:=H
  replace H:(if ([]:List (S86)).length + A1.length < 5864062014805 then (some (y103,A2,A4,A5,Ab,A6,A7,A9,Aa,Af,(([]:List (S86)) ++ A1))) else (none))=some (r1,r2,r3,r4,r5,r6,r7,r8,r9,r10,r11):=H
  have A3:=Aside0.mk A30;clear A30
  by_cases c4:([]:List (S86)).length + A1.length < 5864062014805
  ·rw [if_pos c4] at H
   have LMc4:=Aside0.mk c4;clear c4
   obtain ⟨y109,hy109⟩:∃ y_:List (S86),y_=(([]:List (S86)) ++ A1):=⟨_,rfl⟩
   replace H:(some (y103,A2,A4,A5,Ab,A6,A7,A9,Aa,Af,y109))=some (r1,r2,r3,r4,r5,r6,r7,r8,r9,r10,r11):=by first|(rw [hy109];with_reducible exact H)|(have H2_:=(Option.bind_some _ _).symm.trans H;rw [hy109];with_reducible exact H2_)|(have H2_:=(Option.bind_some _ _).symm.trans H;with_reducible exact H2_)|with_reducible exact H|(rw [hy109];exact H)|exact H
   have Ny109:=Aside0.mk hy109;clear hy109
   simp only [Option.some.injEq,Prod.mk.injEq] at H
   obtain ⟨rfl,rfl,rfl,rfl,rfl,rfl,rfl,rfl,rfl,rfl,rfl⟩:=H
   go_enter Try.func83,Try.ntmps83
   go_wp2_with (first|((with_reducible refine gate_dst (N:=1) rfl ?_);refine bx (N:=1) (cs:=#[.slice As Ad.length At,.int .i64 A2,.string A4,.int .i64 A5,.slice Al Ae.length Am,.int .i64 A6,.bool A7,.int .i64 A9,.int .i64 Aa,.int .i64 Af,.slice Ai A1.length Aj]) (t:=36) ?_;intro Au hg w5 hbox hb;have A0:=Aside0.mk (hbox);have GW101:=bz0 hg HB;have Ap:=bz0 hg HB;replace HB:=bs0 HB hb;clear hb hbox hg)|((with_reducible refine gate_dst (N:=2) rfl ?_);refine bx (N:=2) (cs:=#[.slice none 0 0,.int .i64 0,.string (⟨#[]⟩:ByteArray),.int .i64 0,.slice none 0 0,.int .i64 0,.bool false,.int .i64 0,.int .i64 0,.int .i64 0,.slice none 0 0]) (t:=36) ?_;intro Av hg w6 hbox hb;have A8:=Aside0.mk (hbox);have GW102:=bz1 hg HB Ap;have B1:=bz1 hg HB Ap;replace HB:=bs1 HB hb Ap;have Ar:=nl hg A0;have Ac:=ng hg A0;replace A0:=bb A0 hb;clear hb hbox hg;have hnb7:=Ar.out;have hnc7:=Ac.out;have hcz8__:=c11_ A0;have hfz8__:=f_ A0)|((with_reducible refine gate_builtin (b := .append) (xs:=#[.const (.slice none 0 0),.tmp 4]) rfl ?_);at_builtin;refine Kd.R_append_rows Kd.bool (w0:=w) w.heap.size rfl (.const (.slice none 0 0)) (.tmp 4) 22 4 (.bool false) 1 rfl Try.underlying22 info4 rfl (by decide) (by omega) (.slice none 0 0) ([]:List Bool) Ad _ _ _ (fun _=>True) (fun _=>False) rfl rfl ?aO ?aR (fun _ _ h=>h) (fun _ h=>h.elim) ?aF ?aB ?aS ?aL ?_;(case aR=>exact cw (Kd.C_below Ay.out HB.out));(case aB=>exact (tb HB));(case aF=>exact (fun _ _=>trivial));(case aO=>exact ((Kd.R_nil _ _ _ _ (fun _=>True))));(case aS=>exact (below_size (tb HB)));(case aL=>have:=LMc2.out;omega);intro v104 w9 ho hb hg hat;rw [← Ny103.out] at ho;replace A0:=Aside0.mk (blk_grown (g:=Au) (o := .cells #[.slice As Ad.length At,.int .i64 A2,.string A4,.int .i64 A5,.slice Al Ae.length Am,.int .i64 A6,.bool A7,.int .i64 A9,.int .i64 Aa,.int .i64 Af,.slice Ai A1.length Aj] 36 (0,0)) (dr A0) hg (by simp [Value.ownBlock]));replace A8:=Aside0.mk (blk_grown (g:=Av) (o := .cells #[.slice none 0 0,.int .i64 0,.string (⟨#[]⟩:ByteArray),.int .i64 0,.slice none 0 0,.int .i64 0,.bool false,.int .i64 0,.int .i64 0,.int .i64 0,.slice none 0 0] 36 (0,0)) (dr A8) hg (by simp [Value.ownBlock]));replace HB:=Aside0.mk (hb);have Ak:=Aside0.mk (ho);clear ho hb hg hat;obtain ⟨Ag,Ah,eo10⟩:=Kd.R_slice Ak.out;subst eo10;have hcz11__:=c11_ A0;have hfz11__:=f_ A0)|((with_reducible refine gate_callee (f:=115) rfl ?_);refine goesL_ (some 9) rfl rfl Try.func115 (by kernel_rfl) rfl #[.slice Al Ae.length Am] rfl ml ?_;(with_reducible refine (impl_copyInts.calls _ _ Ae Ab _ ?side1 ?side2 A3.out).mono ?_);(case side1=>exact Kd.C_below Az.out (tb HB));(case side2=>exact B0.out);rintro e w12 ⟨v107,rfl,ho0,hb⟩;refine ⟨_,rfl,?_⟩;replace Ak:=rbf Ak A0 hb;have Aq:=Aside0.mk (Kd.R_lower ho0 (below_size (tb HB)));replace A0:=Aside0.mk (blk_below (g:=Au) (o := .cells #[.slice Ag y103.length Ah,.int .i64 A2,.string A4,.int .i64 A5,.slice Al Ae.length Am,.int .i64 A6,.bool A7,.int .i64 A9,.int .i64 Aa,.int .i64 Af,.slice Ai A1.length Aj] 36 (0,0)) (by (with_reducible repeat (first|refine blk_drewN ?_ _|refine blk_drew ?_|refine blk_alloc ?_ _));refine blk_put (cs:=#[.slice As Ad.length At,.int .i64 A2,.string A4,.int .i64 A5,.slice Al Ae.length Am,.int .i64 A6,.bool A7,.int .i64 A9,.int .i64 Aa,.int .i64 Af,.slice Ai A1.length Aj]) ?_ 0 _ rfl;(with_reducible repeat (first|refine blk_drewN ?_ _|refine blk_drew ?_|refine blk_alloc ?_ _));exact A0.out) hb);replace A8:=Aside0.mk (blk_below (dq A8 Ac) hb);replace HB:=bs2 HB hb Ap B1;(try clear hb);(try clear hb2);(try clear hk);(try clear hi);(try clear ho0);obtain ⟨An,Ao,eo13⟩:=Kd.R_slice Aq.out;subst eo13;have hcz14__:=c11_ A0;have hfz14__:=f_ A0)|((with_reducible refine gate_builtin (b := .append) (xs:=#[.const (.slice none 0 0),.tmp 12]) rfl ?_);at_builtin;refine Kd.R_append_rows k86 (w0:=w) w.heap.size rfl (.const (.slice none 0 0)) (.tmp 12) 34 86 (.agg #[(.string ⟨#[]⟩),(.int .i64 0)]) 24 rfl Try.underlying34 info86 rfl (by decide) (by omega) (.slice none 0 0) ([]:List (S86)) A1 _ _ _ (fun _=>True) (fun _=>False) rfl rfl ?aO ?aR (fun _ _ h=>h) (fun _ h=>h.elim) ?aF ?aB ?aS ?aL ?_;(case aR=>exact Kd.C_below Ax.out (tb HB));(case aB=>exact (tb HB));(case aF=>exact (fun _ _=>trivial));(case aO=>exact ((Kd.R_nil _ _ _ _ (fun _=>True))));(case aS=>exact (below_size (tb HB)));(case aL=>have:=LMc4.out;omega);intro v110 w15 ho hb hg hat;rw [← Ny109.out] at ho;replace A8:=Aside0.mk (blk_grown (g:=Av) (o := .cells #[.slice none 0 0,.int .i64 0,.string (⟨#[]⟩:ByteArray),.int .i64 0,.slice none 0 0,.int .i64 0,.bool false,.int .i64 0,.int .i64 0,.int .i64 0,.slice none 0 0] 36 (0,0)) (dq A8 Ac) hg (by simp [Value.ownBlock]));replace Ak:=Aside0.mk (Kd.R_grown (by (with_reducible repeat (first|apply Kd.R_alloc|apply Kd.R_drewN|apply Kd.R_drew));exact (rf Ak A0)) hg (fun _ _=>by simp [Value.ownBlock]));replace Aq:=Aside0.mk (Kd.R_grown (by (with_reducible repeat (first|apply Kd.R_alloc|apply Kd.R_drewN|apply Kd.R_drew));exact (rf Aq A0)) hg (fun _ _=>by simp [Value.ownBlock]));replace A0:=Aside0.mk (blk_grown (g:=Au) (o := .cells #[.slice Ag y103.length Ah,.int .i64 A2,.string A4,.int .i64 A5,.slice An Ab.length Ao,.int .i64 A6,.bool A7,.int .i64 A9,.int .i64 Aa,.int .i64 Af,.slice Ai A1.length Aj] 36 (0,0)) (by (with_reducible repeat (first|refine blk_drewN ?_ _|refine blk_drew ?_|refine blk_alloc ?_ _));refine blk_put (cs:=#[.slice Ag y103.length Ah,.int .i64 A2,.string A4,.int .i64 A5,.slice Al Ae.length Am,.int .i64 A6,.bool A7,.int .i64 A9,.int .i64 Aa,.int .i64 Af,.slice Ai A1.length Aj]) ?_ 4 _ rfl;(with_reducible repeat (first|refine blk_drewN ?_ _|refine blk_drew ?_|refine blk_alloc ?_ _));exact A0.out) hg (by simp [Value.ownBlock]));replace HB:=Aside0.mk (hb);have Aw:=Aside0.mk (ho);clear ho hb hg hat;obtain ⟨Ao16,co16,eo16⟩:=Kd.R_slice Aw.out;subst eo16;have hcz17__:=c11_ A0;have hfz17__:=f_ A0;have hcz18__:=c11_ A8;have hfz18__:=f_ A8))
   refine bodyPost_ret (results_cell_row rfl _ _ Av 36 #[.slice Ag y103.length Ah,.int .i64 A2,.string A4,.int .i64 A5,.slice An Ab.length Ao,.int .i64 A6,.bool A7,.int .i64 A9,.int .i64 Aa,.int .i64 Af,.slice Ao16 y109.length co16] (0,0) _ rfl (by (with_reducible repeat (first|refine blk_drewN ?_ _|refine blk_drew ?_|refine blk_alloc ?_ _));refine blk_put (cs:=#[.slice Ag y103.length Ah,.int .i64 A2,.string A4,.int .i64 A5,.slice An Ab.length Ao,.int .i64 A6,.bool A7,.int .i64 A9,.int .i64 Aa,.int .i64 Af,.slice none 0 0]) ?_ 10 _ rfl;(with_reducible repeat (first|refine blk_drewN ?_ _|refine blk_drew ?_|refine blk_alloc ?_ _));refine blk_put (cs:=#[.slice Ag y103.length Ah,.int .i64 A2,.string A4,.int .i64 A5,.slice An Ab.length Ao,.int .i64 A6,.bool A7,.int .i64 A9,.int .i64 Aa,.int .i64 0,.slice none 0 0]) ?_ 9 _ rfl;(with_reducible repeat (first|refine blk_drewN ?_ _|refine blk_drew ?_|refine blk_alloc ?_ _));refine blk_put (cs:=#[.slice Ag y103.length Ah,.int .i64 A2,.string A4,.int .i64 A5,.slice An Ab.length Ao,.int .i64 A6,.bool A7,.int .i64 A9,.int .i64 0,.int .i64 0,.slice none 0 0]) ?_ 8 _ rfl;(with_reducible repeat (first|refine blk_drewN ?_ _|refine blk_drew ?_|refine blk_alloc ?_ _));refine blk_put (cs:=#[.slice Ag y103.length Ah,.int .i64 A2,.string A4,.int .i64 A5,.slice An Ab.length Ao,.int .i64 A6,.bool A7,.int .i64 0,.int .i64 0,.int .i64 0,.slice none 0 0]) ?_ 7 _ rfl;(with_reducible repeat (first|refine blk_drewN ?_ _|refine blk_drew ?_|refine blk_alloc ?_ _));refine blk_put (cs:=#[.slice Ag y103.length Ah,.int .i64 A2,.string A4,.int .i64 A5,.slice An Ab.length Ao,.int .i64 A6,.bool false,.int .i64 0,.int .i64 0,.int .i64 0,.slice none 0 0]) ?_ 6 _ rfl;(with_reducible repeat (first|refine blk_drewN ?_ _|refine blk_drew ?_|refine blk_alloc ?_ _));refine blk_put (cs:=#[.slice Ag y103.length Ah,.int .i64 A2,.string A4,.int .i64 A5,.slice An Ab.length Ao,.int .i64 0,.bool false,.int .i64 0,.int .i64 0,.int .i64 0,.slice none 0 0]) ?_ 5 _ rfl;(with_reducible repeat (first|refine blk_drewN ?_ _|refine blk_drew ?_|refine blk_alloc ?_ _));refine blk_put (cs:=#[.slice Ag y103.length Ah,.int .i64 A2,.string A4,.int .i64 A5,.slice none 0 0,.int .i64 0,.bool false,.int .i64 0,.int .i64 0,.int .i64 0,.slice none 0 0]) ?_ 4 _ rfl;(with_reducible repeat (first|refine blk_drewN ?_ _|refine blk_drew ?_|refine blk_alloc ?_ _));refine blk_put (cs:=#[.slice Ag y103.length Ah,.int .i64 A2,.string A4,.int .i64 0,.slice none 0 0,.int .i64 0,.bool false,.int .i64 0,.int .i64 0,.int .i64 0,.slice none 0 0]) ?_ 3 _ rfl;(with_reducible repeat (first|refine blk_drewN ?_ _|refine blk_drew ?_|refine blk_alloc ?_ _));refine blk_put (cs:=#[.slice Ag y103.length Ah,.int .i64 A2,.string (⟨#[]⟩:ByteArray),.int .i64 0,.slice none 0 0,.int .i64 0,.bool false,.int .i64 0,.int .i64 0,.int .i64 0,.slice none 0 0]) ?_ 2 _ rfl;(with_reducible repeat (first|refine blk_drewN ?_ _|refine blk_drew ?_|refine blk_alloc ?_ _));refine blk_put (cs:=#[.slice Ag y103.length Ah,.int .i64 0,.string (⟨#[]⟩:ByteArray),.int .i64 0,.slice none 0 0,.int .i64 0,.bool false,.int .i64 0,.int .i64 0,.int .i64 0,.slice none 0 0]) ?_ 1 _ rfl;(with_reducible repeat (first|refine blk_drewN ?_ _|refine blk_drew ?_|refine blk_alloc ?_ _));refine blk_put (cs:=#[.slice none 0 0,.int .i64 0,.string (⟨#[]⟩:ByteArray),.int .i64 0,.slice none 0 0,.int .i64 0,.bool false,.int .i64 0,.int .i64 0,.int .i64 0,.slice none 0 0]) ?_ 0 _ rfl;(with_reducible repeat (first|refine blk_drewN ?_ _|refine blk_drew ?_|refine blk_alloc ?_ _));refine blk_far ?_ Ac.out _;(with_reducible repeat (first|refine blk_drewN ?_ _|refine blk_drew ?_|refine blk_alloc ?_ _));exact A8.out) Try.underlying36 rfl (by kernel_rfl)) rfl ?_
   exact ⟨_,_,_,er,by exact rfs (Kd.R_types (Kd.R_types Ak.out A0.out (by decide)) A8.out (by decide)),by exact rfs (Kd.R_types (Kd.R_types Aq.out A0.out (by decide)) A8.out (by decide)),by exact rfs (Kd.R_types (Kd.R_types Aw.out A0.out (by decide)) A8.out (by decide)),tb HB⟩
  ·rw [if_neg c4] at H
   exact absurd H (by simp)
 ·rw [if_neg c2] at H
  exact absurd H (by simp)
end Go.Proofs.Ytlpfmhikahlcoaa.G
namespace Go.Proofs.Ytlpfmhikahlcoaa.G
open Go.Proofs.Ytlpfmhikahlcoaa.Sh
open Go.RowKit Go.Proofs.YtlpfmhikahlcoaaW.PrintWords Go.Proofs.YtlpfmhikahlcoaaW.PrintLast Go.Proofs.YtlpfmhikahlcoaaW.PrintMore
attribute [local go_sem] max2_int min2_int max_two min_two max_three min_three max_four min_four
set_option linter.unusedVariables false
set_option linter.unusedSimpArgs false
def impl_placeOfBits.l0:Nat→Int→List Int→Int→Int→Option (Int × Bool)
  | 0,_,_,_,_=>none
  | k + 1,x4,x7,x8,x9=>if x9 < x8 then (if 0≤x9 then (if x9 < (x7.length:Int) then (if (rd x7 x9)=0 then (impl_placeOfBits.l0 k (wrap64 ((wrap64 (2 * x4)) + (rd x7 x9))) x7 x8 (wrap64 (x9 + 1))) else (if (rd x7 x9)=1 then (impl_placeOfBits.l0 k (wrap64 ((wrap64 (2 * x4)) + (rd x7 x9))) x7 x8 (wrap64 (x9 + 1))) else (some (0,false)))) else (none)) else (none)) else (some (x4,true))
def impl_placeOfBits.f (k:Nat) (l0:List Int):Option (Int × Bool):=impl_placeOfBits.l0 k 0 l0 (l0.length:Int) 0
set_option maxHeartbeats 8000000 in
set_option maxRecDepth 100000 in
theorem impl_placeOfBits.calls (k:Nat) (A0:Option Addr) (c0:Nat) (l0:List Int) (r1:Int) (r2:Bool) (w:World) (hr0:Kd.C (Kd.int .i64) w A0 l0.length l0) (hc0:l0.length≤c0) (h:impl_placeOfBits.f k l0=some (r1,r2)) :
    Calls Try.prog 77 #[.slice A0 l0.length c0] w fun e w'=>e = .returned (.tuple #[.int .i64 r1,.bool r2])∧Drawn0 w w':=by
  have HR0:=Aside0.mk hr0
  have HC0:=Aside0.mk hc0
  clear hr0 hc0
  have H:(impl_placeOfBits.l0 k 0 l0 (l0.length:Int) 0)=some (r1,r2):=h
  clear h
  have H':=Aside0.mk H
  clear H
  go_enter Try.func77,Try.ntmps77
  go_wp2
  go_loopg [4,9] k (fun kq v4 v9 w'=>∃ (A2:Int) (A1:Int),v4 = .int .i64 A2∧v9 = .int .i64 A1∧Aside0 (impl_placeOfBits.l0 kq A2 l0 (l0.length:Int) A1=some (r1,r2))∧Aside0 (kq≤k)∧Drawn0 w w')
  case atStart=>exact ⟨(0),(0),(by first|rfl|(simp;done)|(simp [*];done)),(by first|rfl|(simp;done)|(simp [*];done)),H',⟨Nat.le_refl _⟩,by repeat (first|exact Drawn0.refl _|apply Drawn0.step)⟩
  case round =>
    clear H'
    obtain ⟨A2,A1,rfl,rfl,HA,HK1,⟨m1,rfl⟩⟩:=hrel
    cases gk with
    | zero=>exact absurd HA.out (by simp [impl_placeOfBits.l0])
    | succ k1 =>
      have H:=HA.out
      clear HA
      simp only [impl_placeOfBits.l0] at H
      by_cases c2:A1 < (l0.length:Int)
      · rw [if_pos c2] at H
        have c2b0:decide (A1 < (l0.length:Int))=true:=decide_eq_true c2
        clear c2
        by_cases c3:0≤A1
        · rw [if_pos c3] at H
          have c3b0:decide (0≤A1)=true:=decide_eq_true c3
          clear c3
          by_cases c4:A1 < (l0.length:Int)
          · rw [if_pos c4] at H
            have c4b0:decide (A1 < (l0.length:Int))=true:=decide_eq_true c4
            clear c4
            by_cases c5:(rd l0 A1)=0
            · rw [if_pos c5] at H
              have c5b0:((rd l0 A1) == 0)=true:=beq_iff_eq.mpr c5
              have c5b1:((rd l0 A1) != 0)=false:=bne_eq_false_iff_eq.mpr c5
              clear c5
              have H':=Aside0.mk H
              clear H
              have p101:0≤(A1:Int):=od
              have q101:A1 < (l0.length:Int):=od
              obtain ⟨ad101,e101,hx101_0⟩:=Kd.at_int HR0.out A1 p101 q101
              cases e101
              replace p101:=eq_true p101
              replace q101:=eq_true q101
              go_wp2
              go_roundg k1
              case measure=>have:=HK1.out;omega
              case rel=>exact ⟨(wrap64 ((wrap64 (2 * A2)) + (rd l0 A1))),(wrap64 (A1 + 1)),(by first|rfl|(simp;done)|(simp [*];done)),(by first|rfl|(simp;done)|(simp [*];done)),H',⟨by have:=HK1.out;omega⟩,by repeat (first|exact Drawn0.refl _|apply Drawn0.step)⟩
            · rw [if_neg c5] at H
              have c5b0:((rd l0 A1) == 0)=false:=beq_eq_false_iff_ne.mpr c5
              have c5b1:((rd l0 A1) != 0)=true:=bne_iff_ne.mpr c5
              by_cases c6:(rd l0 A1)=1
              · rw [if_pos c6] at H
                have c6b0:((rd l0 A1) == 1)=true:=beq_iff_eq.mpr c6
                have c6b1:((rd l0 A1) != 1)=false:=bne_eq_false_iff_eq.mpr c6
                clear c6
                have H':=Aside0.mk H
                clear H
                have p101:0≤(A1:Int):=od
                have q101:A1 < (l0.length:Int):=od
                obtain ⟨ad101,e101,hx101_0⟩:=Kd.at_int HR0.out A1 p101 q101
                cases e101
                replace p101:=eq_true p101
                replace q101:=eq_true q101
                go_wp2
                go_roundg k1
                case measure=>have:=HK1.out;omega
                case rel=>exact ⟨(wrap64 ((wrap64 (2 * A2)) + (rd l0 A1))),(wrap64 (A1 + 1)),(by first|rfl|(simp;done)|(simp [*];done)),(by first|rfl|(simp;done)|(simp [*];done)),H',⟨by have:=HK1.out;omega⟩,by repeat (first|exact Drawn0.refl _|apply Drawn0.step)⟩
              · rw [if_neg c6] at H
                have c6b0:((rd l0 A1) == 1)=false:=beq_eq_false_iff_ne.mpr c6
                have c6b1:((rd l0 A1) != 1)=true:=bne_iff_ne.mpr c6
                simp only [Option.some.injEq,Prod.mk.injEq] at H
                obtain ⟨rfl,rfl⟩:=H
                have p101:0≤(A1:Int):=od
                have q101:A1 < (l0.length:Int):=od
                obtain ⟨ad101,e101,hx101_0⟩:=Kd.at_int HR0.out A1 p101 q101
                cases e101
                replace p101:=eq_true p101
                replace q101:=eq_true q101
                go_wp2
                go_ret2
                exact ⟨by first|rfl|(simp;done)|(simp [*];done),by repeat (first|exact Drawn0.refl _|apply Drawn0.step)⟩
          · rw [if_neg c4] at H
            exact absurd H (by simp)
        · rw [if_neg c3] at H
          exact absurd H (by simp)
      · rw [if_neg c2] at H
        have c2b0:decide (A1 < (l0.length:Int))=false:=decide_eq_false c2
        clear c2
        simp only [Option.some.injEq,Prod.mk.injEq] at H
        obtain ⟨rfl,rfl⟩:=H
        go_wp2
        go_ret2
        exact ⟨by first|rfl|(simp;done)|(simp [*];done),by repeat (first|exact Drawn0.refl _|apply Drawn0.step)⟩
def impl_leftOf.f (k:Nat) (A0:Int) (A4:ByteArray) (l1:List Int):Option (Int × ByteArray):=(impl_placeOfBits.f k l1).bind fun bt103=>(if 0≤(IntKind.u64.wrap (wrap64 (A0 - (l1.length:Int)))) then (if 0≤(wrap64 (bt103.1 * (shl .i64 1 (IntKind.u64.wrap (wrap64 (A0 - (l1.length:Int))))))) then (if (wrap64 (bt103.1 * (shl .i64 1 (IntKind.u64.wrap (wrap64 (A0 - (l1.length:Int)))))))≤(wrap64 ((wrap64 (bt103.1 + 1)) * (shl .i64 1 (IntKind.u64.wrap (wrap64 (A0 - (l1.length:Int))))))) then (if (wrap64 ((wrap64 (bt103.1 + 1)) * (shl .i64 1 (IntKind.u64.wrap (wrap64 (A0 - (l1.length:Int)))))))≤(A4.size:Int) then (some (wrap64 (A0 - (l1.length:Int)),A4.extract ((wrap64 (bt103.1 * (shl .i64 1 (IntKind.u64.wrap (wrap64 (A0 - (l1.length:Int))))))):Int).toNat ((wrap64 ((wrap64 (bt103.1 + 1)) * (shl .i64 1 (IntKind.u64.wrap (wrap64 (A0 - (l1.length:Int))))))):Int).toNat)) else (none)) else (none)) else (none)) else (none))
set_option maxHeartbeats 8000000 in
set_option maxRecDepth 100000 in
theorem impl_leftOf.calls (k:Nat) (A0:Int) (A4:ByteArray) (A1:Option Addr) (c1:Nat) (l1:List Int) (r1:Int) (r2:ByteArray) (w:World) (hr1:Kd.C (Kd.int .i64) w A1 l1.length l1) (hc1:l1.length≤c1) (h:impl_leftOf.f k A0 A4 l1=some (r1,r2)) :
    Calls Try.prog 80 #[.agg #[.int .i64 A0,.string A4],.slice A1 l1.length c1] w fun e w'=>e = .returned (.agg #[.int .i64 r1,.string r2])∧Below w.heap.size w w':=by
  have hu29:=Try.underlying29
  have HR1:=Aside0.mk hr1
  have HC1:=Aside0.mk hc1
  clear hr1 hc1
  have HB:=Aside0.mk (Below.refl w.heap.size w)
  have H:((impl_placeOfBits.f k l1).bind fun bt103=>(if 0≤(IntKind.u64.wrap (wrap64 (A0 - (l1.length:Int)))) then (if 0≤(wrap64 (bt103.1 * (shl .i64 1 (IntKind.u64.wrap (wrap64 (A0 - (l1.length:Int))))))) then (if (wrap64 (bt103.1 * (shl .i64 1 (IntKind.u64.wrap (wrap64 (A0 - (l1.length:Int)))))))≤(wrap64 ((wrap64 (bt103.1 + 1)) * (shl .i64 1 (IntKind.u64.wrap (wrap64 (A0 - (l1.length:Int))))))) then (if (wrap64 ((wrap64 (bt103.1 + 1)) * (shl .i64 1 (IntKind.u64.wrap (wrap64 (A0 - (l1.length:Int)))))))≤(A4.size:Int) then (some (wrap64 (A0 - (l1.length:Int)),A4.extract ((wrap64 (bt103.1 * (shl .i64 1 (IntKind.u64.wrap (wrap64 (A0 - (l1.length:Int))))))):Int).toNat ((wrap64 ((wrap64 (bt103.1 + 1)) * (shl .i64 1 (IntKind.u64.wrap (wrap64 (A0 - (l1.length:Int))))))):Int).toNat)) else (none)) else (none)) else (none)) else (none)))=some (r1,r2):=h
  clear h
  replace H:=Option.bind_eq_some_iff.mp H
  obtain ⟨⟨A2,t104⟩,A30,H⟩:=H
  replace H:(if 0≤(IntKind.u64.wrap (wrap64 (A0 - (l1.length:Int)))) then (if 0≤(wrap64 (A2 * (shl .i64 1 (IntKind.u64.wrap (wrap64 (A0 - (l1.length:Int))))))) then (if (wrap64 (A2 * (shl .i64 1 (IntKind.u64.wrap (wrap64 (A0 - (l1.length:Int)))))))≤(wrap64 ((wrap64 (A2 + 1)) * (shl .i64 1 (IntKind.u64.wrap (wrap64 (A0 - (l1.length:Int))))))) then (if (wrap64 ((wrap64 (A2 + 1)) * (shl .i64 1 (IntKind.u64.wrap (wrap64 (A0 - (l1.length:Int)))))))≤(A4.size:Int) then (some (wrap64 (A0 - (l1.length:Int)),A4.extract ((wrap64 (A2 * (shl .i64 1 (IntKind.u64.wrap (wrap64 (A0 - (l1.length:Int))))))):Int).toNat ((wrap64 ((wrap64 (A2 + 1)) * (shl .i64 1 (IntKind.u64.wrap (wrap64 (A0 - (l1.length:Int))))))):Int).toNat)) else (none)) else (none)) else (none)) else (none))=some (r1,r2):=H
  have A3:=Aside0.mk A30
  clear A30
  obtain ⟨ji4,hji4⟩:∃ j_:Int,(IntKind.u64.wrap (wrap64 (A0 - (l1.length:Int))))=j_:=⟨_,rfl⟩
  replace H:(if 0≤(ji4) then (if 0≤(wrap64 (A2 * (shl .i64 1 (ji4)))) then (if (wrap64 (A2 * (shl .i64 1 (ji4))))≤(wrap64 ((wrap64 (A2 + 1)) * (shl .i64 1 (ji4)))) then (if (wrap64 ((wrap64 (A2 + 1)) * (shl .i64 1 (ji4))))≤(A4.size:Int) then (some (wrap64 (A0 - (l1.length:Int)),A4.extract ((wrap64 (A2 * (shl .i64 1 (ji4)))):Int).toNat ((wrap64 ((wrap64 (A2 + 1)) * (shl .i64 1 (ji4)))):Int).toNat)) else (none)) else (none)) else (none)) else (none))=some (r1,r2):=by first|(rw [hji4] at H;exact H)|(simp only [hji4] at H ⊢;exact H)
  (try rw [hji4] at A3)
  by_cases c5:0≤(ji4)
  · rw [if_pos c5] at H
    have c5b0:=eq_true c5
    have c5b1:decide (0≤(ji4))=true:=decide_eq_true c5
    clear c5
    obtain ⟨ji6,hji6⟩:∃ j_:Int,(shl .i64 1 (ji4))=j_:=⟨_,rfl⟩
    replace H:(if 0≤(wrap64 (A2 * (ji6))) then (if (wrap64 (A2 * (ji6)))≤(wrap64 ((wrap64 (A2 + 1)) * (ji6))) then (if (wrap64 ((wrap64 (A2 + 1)) * (ji6)))≤(A4.size:Int) then (some (wrap64 (A0 - (l1.length:Int)),A4.extract ((wrap64 (A2 * (ji6))):Int).toNat ((wrap64 ((wrap64 (A2 + 1)) * (ji6))):Int).toNat)) else (none)) else (none)) else (none))=some (r1,r2):=by first|(rw [hji6] at H;exact H)|(simp only [hji6] at H ⊢;exact H)
    (try rw [hji6] at A3)
    have hji6_:(IntKind.i64.wrap (1 * 2 ^ min (ji4).toNat 64))=ji6:=hji6
    have hji6z:(ji4)≤64→(IntKind.i64.wrap (1 * 2 ^ (ji4).toNat))=ji6:=shl_small hji6
    have hji6u:(IntKind.i64.wrap (2 ^ min (ji4).toNat 64))=ji6:=by have h_:=hji6_;rw [Int.one_mul] at h_;exact h_
    have hji6v:(ji4)≤64→(IntKind.i64.wrap (2 ^ (ji4).toNat))=ji6:=fun hle_=>by have h_:=hji6z hle_;rw [Int.one_mul] at h_;exact h_
    have hji6y:(wrap64 (1 * 2 ^ min (ji4).toNat 64))=ji6:=(i64_w _).symm.trans hji6_
    have hji6x:(ji4)≤64→(wrap64 (1 * 2 ^ (ji4).toNat))=ji6:=fun h_=>(i64_w _).symm.trans (hji6z h_)
    obtain ⟨ji7,hji7⟩:∃ j_:Int,(wrap64 (A2 * (ji6)))=j_:=⟨_,rfl⟩
    replace H:(if 0≤(ji7) then (if (ji7)≤(wrap64 ((wrap64 (A2 + 1)) * (ji6))) then (if (wrap64 ((wrap64 (A2 + 1)) * (ji6)))≤(A4.size:Int) then (some (wrap64 (A0 - (l1.length:Int)),A4.extract ((ji7):Int).toNat ((wrap64 ((wrap64 (A2 + 1)) * (ji6))):Int).toNat)) else (none)) else (none)) else (none))=some (r1,r2):=by first|(rw [hji7] at H;exact H)|(simp only [hji7] at H ⊢;exact H)
    (try rw [hji7] at A3)
    have hji7w:(IntKind.i64.wrap (A2 * (ji6)))=ji7:=(i64_w _).trans hji7
    by_cases c8:0≤(ji7)
    · rw [if_pos c8] at H
      have c8b0:=eq_true c8
      have c8b1:decide (0≤(ji7))=true:=decide_eq_true c8
      clear c8
      by_cases c9:(ji7)≤(wrap64 ((wrap64 (A2 + 1)) * (ji6)))
      · rw [if_pos c9] at H
        have c9b0:=eq_true c9
        have c9b1:decide ((ji7)≤(wrap64 ((wrap64 (A2 + 1)) * (ji6))))=true:=decide_eq_true c9
        by_cases c10:(wrap64 ((wrap64 (A2 + 1)) * (ji6)))≤(A4.size:Int)
        · rw [if_pos c10] at H
          have c10b0:=eq_true c10
          have c10b1:decide ((wrap64 ((wrap64 (A2 + 1)) * (ji6)))≤(A4.size:Int))=true:=decide_eq_true c10
          simp only [Option.some.injEq,Prod.mk.injEq] at H
          obtain ⟨rfl,rfl⟩:=H
          go_enter Try.func80,Try.ntmps80
          go_wp2_with (first|((with_reducible refine gate_dst (N:=2) rfl ?_);refine bx (N:=2) (cs:=#[.int .i64 A0,.string A4]) (t:=29) ?_;intro A6 hg w11 hbox hb;have A5:=Aside0.mk (hbox);have GW101:=Aside0.mk ((by rw [hg];exact (below_size (tb HB)):w.heap.size≤A6));have GE101:=Aside0.mk ((by rw [hg];exact (below_size (tb HB)):w.heap.size≤A6));replace HB:=Aside0.mk (below_step (tb HB) hb);clear hb hbox hg)|((with_reducible refine gate_dst (N:=4) rfl ?_);refine bx (N:=4) (cs:=#[.int .i64 0,.string (⟨#[]⟩:ByteArray)]) (t:=29) ?_;intro A7 hg w12 hbox hb;have A8:=Aside0.mk (hbox);have GW102:=Aside0.mk ((by rw [hg];exact (below_size (tb HB)):w.heap.size≤A7));have GE102:=Aside0.mk ((by rw [hg];exact (below_size (tb HB)):w.heap.size≤A7));replace HB:=Aside0.mk (below_step (tb HB) hb);have A9:=Aside0.mk ((by rw [hg];exact Nat.ne_of_lt (blk_lt (g:=A6) (o := .cells #[.int .i64 A0,.string A4] 29 (0,0)) (dr A5)):A6≠A7));have Aa:=Aside0.mk ((by rw [hg];exact Nat.ne_of_gt (blk_lt (g:=A6) (o := .cells #[.int .i64 A0,.string A4] 29 (0,0)) (dr A5)):A7≠A6));replace A5:=Aside0.mk (blk_below (g:=A6) (o := .cells #[.int .i64 A0,.string A4] 29 (0,0)) (dr A5) hb);clear hb hbox hg)|((with_reducible refine gate_callee (f:=77) rfl ?_);refine goesL_ (some 11) rfl rfl Try.func77 (by kernel_rfl) rfl #[.slice A1 l1.length c1] rfl ml ?_;(with_reducible refine (impl_placeOfBits.calls k _ _ l1 A2 t104 _ ?side1 ?side2 A3.out).mono ?_);(case side1=>exact cw (Kd.C_below HR1.out HB.out));(case side2=>exact HC1.out);rintro e w' ⟨rfl,⟨nd,rfl⟩⟩;refine ⟨_,rfl,?_⟩;(try (rw [drewN_self w12];generalize hq_:World.drewN w12 _=w12;have n0_:Aside0 (w12.heap[A6]? = some (.cells #[.int .i64 A0,.string A4] 29 (0,0))):=⟨by rw [← hq_];exact (dr A5)⟩;have n1_:Aside0 (w12.heap[A7]? = some (.cells #[.int .i64 0,.string (⟨#[]⟩:ByteArray)] 29 (0,0))):=⟨by rw [← hq_];exact (dr A8)⟩;have n2_:Aside0 (Below w.heap.size w w12):=⟨by rw [← hq_];exact (tb HB)⟩;clear A5 A8 HB hq_;have A5:=n0_;have A8:=n1_;have HB:=n2_;clear n0_ n1_ n2_));have hnb13:=A9.out;have hnc13:=Aa.out;have hcz14__:=c2_ A5;have hfz14__:=f_ A5;have hcz15__:=c2_ A8;have hfz15__:=f_ A8))
          refine bodyPost_ret (results_cell_row rfl _ _ A7 29 #[.int .i64 (wrap64 (A0 - (l1.length:Int))),.string (A4.extract ((ji7):Int).toNat ((wrap64 ((wrap64 (A2 + 1)) * (ji6))):Int).toNat)] (0,0) _ rfl (by (with_reducible repeat (first|refine blk_drewN ?_ _|refine blk_drew ?_|refine blk_alloc ?_ _));refine blk_put (cs:=#[.int .i64 (wrap64 (A0 - (l1.length:Int))),.string (⟨#[]⟩:ByteArray)]) ?_ 1 _ rfl;(with_reducible repeat (first|refine blk_drewN ?_ _|refine blk_drew ?_|refine blk_alloc ?_ _));refine blk_put (cs:=#[.int .i64 0,.string (⟨#[]⟩:ByteArray)]) ?_ 0 _ rfl;(with_reducible repeat (first|refine blk_drewN ?_ _|refine blk_drew ?_|refine blk_alloc ?_ _));exact A8.out) Try.underlying29 rfl (by kernel_rfl)) rfl ?_
          exact ⟨by first|rfl|(simp [errW_none,errW_some] <;> rfl)|(simp only [← hji4,← hji6,← hji7];first|rfl|(simp [errW_none,errW_some] <;> rfl))|(simp [*,errW_none,errW_some] <;> rfl),tb HB⟩
        · rw [if_neg c10] at H
          exact absurd H (by simp)
      · rw [if_neg c9] at H
        exact absurd H (by simp)
    · rw [if_neg c8] at H
      exact absurd H (by simp)
  · rw [if_neg c5] at H
    exact absurd H (by simp)
end Go.Proofs.Ytlpfmhikahlcoaa.G
