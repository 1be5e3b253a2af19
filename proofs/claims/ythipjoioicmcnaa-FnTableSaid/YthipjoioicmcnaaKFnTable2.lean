-- texts of this session, merged by a program of it (wip/gen/pack.py)
import Derived.Test.YthipjoioicmcnaaKFnTable1
import Derived.Laws.StructEq
import Derived.Test.YthipjoioicmcnaaProg
import Derived.Below
import Derived.Deep.Draws
import Derived.Deep.AppendLies
import Derived.Maps.AppendAt
import Derived.OwnWalk
import Derived.Laws.BytesArg
import Derived.Laws.MakeOwn
import Derived.Laws.OwnMore
import Derived.Deep.OwnRows
import Derived.Tactics
import Derived.Lib.ConvBytes
import Derived.Laws.Slices
import Derived.WalkKit
import Derived.KernelRfl
import Derived.RowKit3
import Derived.Deep.LoopGhost
import Derived.Deep.QuietTactic
import Derived.BigQuiet
import Derived.WideLaws
import Derived.Deep.DeepCutAuto
import Derived.Deep.CutBlock
import Derived.Deep.RegionHeld3
import Derived.Laws.Rows
import Derived.Lib.AppendStr
import Derived.ArgAppend
import Derived.Laws.IdiomCopy
import Derived.OrdersHeld
import Derived.Laws.BitsLemmas
import Derived.RowKit
set_option linter.unusedVariables false
set_option linter.unusedSimpArgs false
set_option maxHeartbeats 80000000
set_option maxRecDepth 100000
namespace Go.Proofs.YthipjoioicmcnaaW.PrintMore
open Go.RowKit Go.Proofs.YthipjoioicmcnaaW.PrintWords
namespace Kd
open Go.Proofs.YthipjoioicmcnaaW.PrintWords.Kd
end Kd
namespace Kd
open Go.Proofs.YthipjoioicmcnaaW.PrintWords.Kd
section
variable {α:Type} {d:Kd α} {e base g N:Nat} {ok:Nat→Prop} {W w1:World} {u v:Value} {xs:List α}
end
end Kd
theorem eS (k k':IntKind) (x y:Int):Builtin.max2 (.int k x) (.int k' y)=pure (.int k (if x < y then y else x)):=by simp only [Builtin.max2,gt_iff_lt]
theorem eR (k k':IntKind) (x y:Int):Builtin.min2 (.int k x) (.int k' y)=pure (.int k (if y < x then y else x)):=by simp only [Builtin.min2]
theorem fI (ats:Array TypeId) (ty:TypeId) (a b:Value):Builtin.max_ ats ty #[a,b]=(Builtin.max2 a b >>= fun s=>pure s):=by simp only [Builtin.max_,List.foldlM_cons,List.foldlM_nil]
theorem fJ (ats:Array TypeId) (ty:TypeId) (a b:Value):Builtin.min_ ats ty #[a,b]=(Builtin.min2 a b >>= fun s=>pure s):=by simp only [Builtin.min_,List.foldlM_cons,List.foldlM_nil]
theorem eI (ats:Array TypeId) (ty:TypeId) (a b c:Value):Builtin.max_ ats ty #[a,b,c]=(Builtin.max2 a b >>= fun s=>Builtin.max2 s c >>= fun s=>pure s):=by simp only [Builtin.max_,List.foldlM_cons,List.foldlM_nil]
theorem eJ (ats:Array TypeId) (ty:TypeId) (a b c:Value):Builtin.min_ ats ty #[a,b,c]=(Builtin.min2 a b >>= fun s=>Builtin.min2 s c >>= fun s=>pure s):=by simp only [Builtin.min_,List.foldlM_cons,List.foldlM_nil]
theorem eU (ats:Array TypeId) (ty:TypeId) (a b c d:Value):Builtin.max_ ats ty #[a,b,c,d]=(Builtin.max2 a b >>= fun s=>Builtin.max2 s c >>= fun s=>Builtin.max2 s d >>= fun s=>pure s):=by simp only [Builtin.max_,List.foldlM_cons,List.foldlM_nil]
theorem eT (ats:Array TypeId) (ty:TypeId) (a b c d:Value):Builtin.min_ ats ty #[a,b,c,d]=(Builtin.min2 a b >>= fun s=>Builtin.min2 s c >>= fun s=>Builtin.min2 s d >>= fun s=>pure s):=by simp only [Builtin.min_,List.foldlM_cons,List.foldlM_nil]
end Go.Proofs.YthipjoioicmcnaaW.PrintMore
namespace Go.Proofs.YthipjoioicmcnaaW.PrintWords
open Go.RowKit
section
variable {P:Program} {ops:Array Oper} {rest:List Oper} {o:Oper} {a:Act} {Q:Exit→Act→World→Prop} {W:World}
theorem aD {f:FuncId} {as_:Array Operand} {ts:Array TypeId} (_ho:o.op = .call { callee := .value (.func f),args:=as_,argTypes:=ts }) (h:wpList P ops Q (o :: rest) a W):wpList P ops Q (o :: rest) a W:=h
theorem cM {b:Builtin} {xs:Array Operand} {ts:Array TypeId} (_ho:o.op = .call { callee := .builtin b,args:=xs,argTypes:=ts }) (h:wpList P ops Q (o :: rest) a W):wpList P ops Q (o :: rest) a W:=h
end
def mn (a b:Int):Int:=if b < a then b else a
def shl (k:IntKind) (x y:Int):Int:=k.wrap (x * 2 ^ min y.toNat k.bits)
def shr (k:IntKind) (x y:Int):Int:=x / 2 ^ min y.toNat k.bits
theorem gK {k:IntKind} {x y j:Int} (h:shl k x y=j) (hy:y≤k.bits):k.wrap (x * 2 ^ y.toNat)=j:=by rw [← h];unfold shl;rw [Nat.min_eq_left (by omega)]
theorem oQ {k:IntKind} {x y j:Int} (h:shr k x y=j) (hy:y≤k.bits):x / 2 ^ y.toNat=j:=by rw [← h];unfold shr;rw [Nat.min_eq_left (by omega)]
theorem iQ (w:World) (n:Nat):w.drewN n=w.drewN n:=rfl
namespace Kd
section
variable {α:Type} {d:Kd α} {e base:Nat} {ok:Nat→Prop} {W w1:World} {v:Value} {xs:List α}
end
section
variable {α:Type} {d:Kd α} {e base g n cap:Nat} {ok oki okp:Nat→Prop} {W:World} {xs:List α} {i:Int} {c:List Value}
end
section
variable {α:Type} {d:Kd α} {e base b b' g N:Nat} {ok ok1:Nat→Prop} {W W2 w1:World} {u v:Value} {xs ys:List α} {S:Nat→Prop}
theorem uL {n size:Nat} {cs:List Value} (h:W.ownsRow b e size v n cs) (hb:∀ k,v.ownBlock=some k→b'≤k):W.ownsRow b' e size v n cs:=by
 obtain ⟨h1,h2⟩:=h
 refine ⟨h1,?_⟩
 rcases h2 with h2 | ⟨g,cap,cur,rfl,_,r⟩
 ·exact .inl h2
 ·exact .inr ⟨g,cap,cur,rfl,hb g (by simp [Value.ownBlock]),r⟩
theorem R_raise (hM:∀ w ok x cs,d.M w b ok x cs→d.M w b' ok x cs) (h:d.R e W b ok v xs) (hb:∀ k,v.ownBlock=some k→b'≤k):d.R e W b' ok v xs:=by
 obtain ⟨h0,inner,ho,hr⟩:=h
 exact ⟨h0,inner,uL ho hb,hr.imp_ (fun _ _ hp=>hM _ _ _ _ hp)⟩
theorem R_keptB (h:d.R e W base ok v xs) (hk:eC W W2 S) (hne:∀ k,ok k→¬ S k):d.R e W2 base (fun k=>ok k∧(¬ S k∧k < W.heap.size)) v xs :=
 R_kept (R_mono (R_bound h) (fun k hk=>⟨hk.1,hne k hk.1,hk.2.2.1⟩)) hk (fun _ hk=>hk.2.1)
end
end Kd
end Go.Proofs.YthipjoioicmcnaaW.PrintWords
namespace Go.Proofs.YthipjoioicmcnaaW.PrintWords
open Go.RowKit
theorem eC.keepG {w W W2:World} {S2:Nat→Prop} {g:Nat} (h:cF w W g none) (k:eC W W2 S2) (hs:∀ k,S2 k→k=g∨w.heap.size≤k):cF w W2 g none :=
 ⟨Nat.le_trans h.1 k.1,fun i hi hg hr=>(k.2 i (Nat.lt_of_lt_of_le hi h.1) (fun h2=>(hs i h2).elim hg (fun h3=>by omega))).trans (h.2 i hi hg hr)⟩
namespace Kd
def V {α:Type} (d:Kd α) (_e:Nat) (W:World) (_base:Nat) (ok:Nat→Prop) (v:Value) (xs:List α):Prop:=∃ A c,v = .slice A xs.length c∧xs.length≤c∧F d W ok A xs.length xs
section
variable {α β:Type} {d:Kd α} {e base base' n m c g N' lo hi:Nat} {ok ok' S:Nat→Prop} {w W w1:World} {A:Option Addr} {ad:Addr} {u v v1:Value} {xs:List α}
end
end Kd
end Go.Proofs.YthipjoioicmcnaaW.PrintWords
namespace Go.Proofs.YthipjoioicmcnaaW.PrintWords
open Go.RowKit
section
variable {P:Program} {ops:Array Oper} {rest:List Oper} {o:Oper} {a:Act} {Q:Exit→Act→World→Prop} {W:World}
theorem cV (hw:Region.wanted o (yielded ops a.tmps)=true) (h:wpList P ops Q ({ o with guard:=none } :: rest) a W):wpList P ops Q (o :: rest) a W:=by
 have h1:Region.wanted { o with guard:=none } (yielded ops a.tmps)=true:=rfl
 unfold wpList at h ⊢
 rw [if_pos h1] at h
 rw [if_pos hw]
 exact h
end
end Go.Proofs.YthipjoioicmcnaaW.PrintWords
namespace Go.Proofs.Ythipjoioicmcnaa.Sh
open Go.RowKit Go.Proofs.YthipjoioicmcnaaW.PrintWords Go.Proofs.YthipjoioicmcnaaW.PrintLast Go.Proofs.YthipjoioicmcnaaW.PrintMore
theorem bb {W0 W w':World} {g:Nat} {o:Obj} (h:aA (W0.heap[g]? = some o)) (hb:Below W.heap.size W w')
  (e:W0.heap[g]? = some o→W.heap[g]? = some o:=by first|(with_reducible exact id)|(intro h_;(with_reducible repeat (first|refine bH ?_ _|refine bE ?_|refine bK ?_ _));first|(with_reducible exact h_)|exact h_)):aA (w'.heap[g]? = some o):=⟨aQ (e h.out) hb⟩
theorem ng {W0 W:World} {g g':Nat} {o:Obj} (hg:g'=W.heap.size) (h:aA (W0.heap[g]? = some o))
  (e:W0.heap[g]? = some o→W.heap[g]? = some o:=by first|(with_reducible exact id)|(intro h_;(with_reducible repeat (first|refine bH ?_ _|refine bE ?_|refine bK ?_ _));first|(with_reducible exact h_)|exact h_)):aA (g'≠g):=⟨by rw [hg];exact Nat.ne_of_gt (gA (e h.out))⟩
theorem dr {W0 W:World} {g:Nat} {o:Obj} (h:aA (W0.heap[g]? = some o))
  (e:W0.heap[g]? = some o→W.heap[g]? = some o:=by first|(with_reducible exact id)|(intro h_;(with_reducible repeat (first|refine bH ?_ _|refine bE ?_|refine bK ?_ _));first|(with_reducible exact h_)|exact h_)):W.heap[g]? = some o:=e h.out
theorem bs0 {w W0 W w':World} (h:aA (Below w.heap.size w W0)) (hb:Below W.heap.size W w')
  (e:Below w.heap.size w W0→Below w.heap.size w W:=by intro h_;repeat (first|(with_reducible exact h_)|(with_reducible apply bS)|(with_reducible apply aV)|(with_reducible apply bQ)|exact h_)):aA (Below w.heap.size w w'):=⟨aE (e h.out) hb⟩
theorem bs2 {w W0 W w':World} {x0 x1:Nat} (h:aA (Below w.heap.size w W0)) (hb:Below W.heap.size W w') (g0:aA (w.heap.size≤x0)) (g1:aA (w.heap.size≤x1))
  (e:w.heap.size≤x0→w.heap.size≤x1→Below w.heap.size w W0→Below w.heap.size w W:=by intro g0_ g1_ h_;repeat (first|(with_reducible exact h_)|(with_reducible apply bS)|(with_reducible apply aV)|(with_reducible apply bQ)|(with_reducible refine aZ ?_ g0_)|(with_reducible refine aZ ?_ g1_)|exact h_)):aA (Below w.heap.size w w'):=⟨aE (e g0.out g1.out h.out) hb⟩
theorem bs3 {w W0 W w':World} {x0 x1 x2:Nat} (h:aA (Below w.heap.size w W0)) (hb:Below W.heap.size W w') (g0:aA (w.heap.size≤x0)) (g1:aA (w.heap.size≤x1)) (g2:aA (w.heap.size≤x2))
  (e:w.heap.size≤x0→w.heap.size≤x1→w.heap.size≤x2→Below w.heap.size w W0→Below w.heap.size w W:=by intro g0_ g1_ g2_ h_;repeat (first|(with_reducible exact h_)|(with_reducible apply bS)|(with_reducible apply aV)|(with_reducible apply bQ)|(with_reducible refine aZ ?_ g0_)|(with_reducible refine aZ ?_ g1_)|(with_reducible refine aZ ?_ g2_)|exact h_)):aA (Below w.heap.size w w'):=⟨aE (e g0.out g1.out g2.out h.out) hb⟩
theorem bp3 {w:World} {g:Nat} {t:TypeId} {x0 x1 x2 u0 u1 u2:Value} (h:w.heap[g]? = some (.cells #[x0,x1,x2] t (0,0))):(((w.setCell ⟨g,0,none⟩ u0).setCell ⟨g,1,none⟩ u1).setCell ⟨g,2,none⟩ u2).heap[g]? = some (.cells #[u0,u1,u2] t (0,0)):=(bF (cs:=#[u0,u1,x2]) (bF (cs:=#[u0,x1,x2]) (bF (cs:=#[x0,x1,x2]) h 0 u0 rfl) 1 u1 rfl) 2 u2 rfl)
section
variable {α:Type} {d:Kd α} {e base t g:Nat} {W0 W w':World} {ok:Nat→Prop} {v:Value} {xs:List α} {cs:Array Value}
theorem rf (h:aA (d.R e W0 base ok v xs)) (hb:aA (W0.heap[g]? = some (.cells cs t (0,0)))) (ht:∀ q,q∈e :: d.E→q≠t:=by decide)
  (s:d.R e W0 base (fun k=>ok k∧k≠g) v xs→d.R e W base (fun k=>ok k∧k≠g) v xs:=by (intro h_;repeat (first|(with_reducible exact h_)|refine Kd.R_far ?_ (fun _ hk=>hk.2) _))):d.R e W base ok v xs:=Kd.R_mono (s (Kd.R_types h.out hb.out ht)) (fun _ h_=>h_.1)
theorem rb (h:aA (d.R e W0 base ok v xs)) (hb:Below W.heap.size W w')
  (s:d.R e W0 base ok v xs→d.R e W base ok v xs:=by first|(with_reducible exact id)|(intro h_;(with_reducible repeat (first|apply Kd.R_alloc|apply Kd.R_drewN|apply Kd.R_drew));first|(with_reducible exact h_)|exact h_)):aA (d.R e w' base ok v xs):=⟨Kd.R_below (s h.out) hb⟩
theorem re (h:aA (d.R e W0 base ok v xs)) {u:Value} (hu:∀ k,u.ownBlock=some k→W.heap.size≤k) (hb:Below W.heap.size W w')
  (s:d.R e W0 base ok v xs→d.R e W base ok v xs:=by first|(with_reducible exact id)|(intro h_;(with_reducible repeat (first|apply Kd.R_alloc|apply Kd.R_drewN|apply Kd.R_drew));first|(with_reducible exact h_)|exact h_)):aA (d.R e w' base (fun k=>ok k∧some k≠u.ownBlock) v xs):=⟨Kd.R_elder' (s h.out) hu hb⟩
end
theorem tb {b:Nat} {w W w':World} (hb:aA (Below b w W)) (h:Below b w W→Below b w w':=by intro h_;repeat (first|(with_reducible first|exact h_|apply bS|apply aV|apply bQ|refine aZ ?_ (aA.out (by assumption)))|exact h_)):Below b w w':=h hb.out
theorem tp {w W0 W:World} {g:Nat} {r:Option Nat} (hk:aA (cF w W0 g r)) (h:cF w W0 g r→cF w W g r:=by intro h_;repeat (first|(with_reducible first|exact h_|apply cF.set_|apply sP|apply uH|apply sJ|refine wD ?_ (aA.out (by assumption)) _)|exact h_)):cF w W g r:=h hk.out
theorem f_ {w:World} {g:Nat} {t:TypeId} {cs:Array Value} (h:aA (w.heap[g]? = some (.cells cs t (0,0)))):∀ i,w.frozen? ⟨g,i,none⟩=false:=fun i=>aW h.out i
theorem lP {w:World} {g:Nat} {t:TypeId} {x0 x1:Value} (h:aA (w.heap[g]? = some (.cells #[x0,x1] t (0,0)))):w.cell? ⟨g,0,none⟩=some x0∧w.cell? ⟨g,1,none⟩=some x1:=⟨(aG h.out 0).trans rfl,(aG h.out 1).trans rfl⟩
theorem xN {w:World} {g:Nat} {t:TypeId} {x0 x1 x2:Value} (h:aA (w.heap[g]? = some (.cells #[x0,x1,x2] t (0,0)))):w.cell? ⟨g,0,none⟩=some x0∧w.cell? ⟨g,1,none⟩=some x1∧w.cell? ⟨g,2,none⟩=some x2:=⟨(aG h.out 0).trans rfl,(aG h.out 1).trans rfl,(aG h.out 2).trans rfl⟩
theorem eM {w:World} {g:Nat} {t:TypeId} {x0 x1 x2 x3 x4 x5:Value} (h:aA (w.heap[g]? = some (.cells #[x0,x1,x2,x3,x4,x5] t (0,0)))):w.cell? ⟨g,0,none⟩=some x0∧w.cell? ⟨g,1,none⟩=some x1∧w.cell? ⟨g,2,none⟩=some x2∧w.cell? ⟨g,3,none⟩=some x3∧w.cell? ⟨g,4,none⟩=some x4∧w.cell? ⟨g,5,none⟩=some x5:=⟨(aG h.out 0).trans rfl,(aG h.out 1).trans rfl,(aG h.out 2).trans rfl,(aG h.out 3).trans rfl,(aG h.out 4).trans rfl,(aG h.out 5).trans rfl⟩
theorem c8_ {w:World} {g:Nat} {t:TypeId} {x0 x1 x2 x3 x4 x5 x6 x7:Value} (h:aA (w.heap[g]? = some (.cells #[x0,x1,x2,x3,x4,x5,x6,x7] t (0,0)))):w.cell? ⟨g,0,none⟩=some x0∧w.cell? ⟨g,1,none⟩=some x1∧w.cell? ⟨g,2,none⟩=some x2∧w.cell? ⟨g,3,none⟩=some x3∧w.cell? ⟨g,4,none⟩=some x4∧w.cell? ⟨g,5,none⟩=some x5∧w.cell? ⟨g,6,none⟩=some x6∧w.cell? ⟨g,7,none⟩=some x7:=⟨(aG h.out 0).trans rfl,(aG h.out 1).trans rfl,(aG h.out 2).trans rfl,(aG h.out 3).trans rfl,(aG h.out 4).trans rfl,(aG h.out 5).trans rfl,(aG h.out 6).trans rfl,(aG h.out 7).trans rfl⟩
section
variable {α:Type} {d:Kd α} {e base:Nat} {W0 W:World} {ok:Nat→Prop} {v:Value} {xs:List α}
theorem ra (h:aA (d.R e W0 base ok v xs)) (s:d.R e W0 base ok v xs→d.R e W base ok v xs:=by first|(with_reducible exact id)|(intro h_;(with_reducible repeat (first|apply Kd.R_alloc|apply Kd.R_drewN|apply Kd.R_drew));first|(with_reducible exact h_)|exact h_)):d.R e W base ok v xs:=s h.out
theorem rfs {base0:Nat} (h:d.R e W0 base0 ok v xs) (s:d.R e W0 base0 ok v xs→d.R e W base0 ok v xs:=by (intro h_;(with_reducible repeat (first|apply Kd.R_alloc|apply Kd.R_drewN|apply Kd.R_drew));repeat (first|(with_reducible exact h_)|(with_reducible first|apply Kd.R_alloc|apply Kd.R_drewN|apply Kd.R_drew)|refine Kd.R_far ?_ (by first|exact (fun _ hk=>hk.2)|exact (fun _ hk=>hk.1.2)) _|exact h_))):d.R e W base0 (fun _=>True) v xs:=Kd.R_mono (s h) (fun _ _=>trivial)
end
theorem er {p:Prop} (h:p:=by first|rfl|(simp [dS,dT] <;> rfl)|(simp [*,dS,dT] <;> rfl)):p:=h
theorem od {p:Prop} [Decidable p] (h:decide p=true:=by first|(with_reducible assumption)|assumption):p:=of_decide_eq_true h
theorem dd {p:Prop} (h:p:=by first|exact ⟨rfl,_,World.drewN_drewN _ _ _⟩|exact ⟨rfl,_,Eq.trans (World.drewN_drewN _ _ _) (congrArg (World.drewN _) (Nat.add_assoc _ _ _))⟩):p:=h
theorem ml {p:Prop} (h:p:=by (try simp only [List.map_toArray,List.map_cons,List.map_nil]);first|done|rfl|(simp only [List.length_drop,List.length_take];rfl)):p:=h
theorem cw {α:Type} {d:Kd α} {A:Option Addr} {n:Nat} {xs:List α} {W0 W:World} (h:d.C W0 A n xs) (s:d.C W0 A n xs→d.C W A n xs:=by (intro h_;repeat (first|exact h_|(with_reducible refine Kd.C_alloc ?_ _)|(with_reducible refine Kd.C_drewN ?_ _)|(with_reducible refine Kd.C_drew ?_)))):d.C W A n xs:=s h
theorem bx {P:Program} {ops:Array Oper} {rest:List Oper} {o:Oper} {a:Act} {Q:Exit→Act→World→Prop} {W:World} {N:Tmp} {cs:Array Value} {t:TypeId}
  (h:∀ g,g=W.heap.size→∀ w1,w1.heap[g]? = some (.cells cs t (0,0))→Below W.heap.size W w1→wpList P ops Q rest (a.put o.dst (.pointer (some ⟨g,0,none⟩))) w1)
  (hgd:o.guard=none:=by rfl) (hd:o.dst=some N:=by rfl)
  (hrun:(execOp a.eval o).run P W = .ok (.value (.pointer (some ⟨W.heap.size,0,none⟩))) (W.alloc (.cells cs t (0,0))):=by first|(go_simp;done)|(go_simp;rfl)):wpList P ops Q (o :: rest) a W:=uN hgd hd hrun h
theorem ct {w W W':World} {p:Addr} {v:Value} (hb:aA (Below w.heap.size W W')) (h:w.cell? p=some v) (e:w.cell? p=W.cell? p:=by rfl):W'.cell? p=some v:=(hb.out.cell (World.block_lt_of_cell? w _ h)).trans (e.symm.trans h)
theorem e1 {p:Prop} (h:p:=by first|rfl|(simp;done)|(simp [*];done)):p:=h
theorem gM {α:Type} {p q:Prop} {y e:α} (hy:y=e) (H:p) (h:y=e→p→q:=by (intro h_ H_;first|(rw [h_];with_reducible exact H_)|(have H2_:=(Option.bind_some _ _).symm.trans H_;rw [h_];with_reducible exact H2_)|(have H2_:=(Option.bind_some _ _).symm.trans H_;with_reducible exact H2_)|with_reducible exact H_|(rw [h_];exact H_)|exact H_)):q:=h hy H
theorem dn {p:Prop} (h:p:=by repeat (first|exact bT.refl _|apply bT.step)):p:=h
theorem os {α:Type} {a b:α} (h:some a=some b):a=b:=Option.some.inj h
theorem ob {α β:Type} {x:Option α} {f:α→Option β} {b:β} (h:x.bind f=some b):∃ a,x=some a∧f a=some b:=Option.bind_eq_some_iff.1 h
abbrev tf (k m:Nat):Array Bool:=(List.replicate k true ++ List.replicate m false).toArray
theorem s1 {α:Type} (l:List α) (i:Nat) (a:α):l.toArray.setIfInBounds i a=(l.set i a).toArray:=by simp
theorem s2 {α:Type} (x:α) (l:List α) (a:α):(x :: l).set 0 a=a :: l:=rfl
theorem s3 {α:Type} (x:α) (l:List α) (n:Nat) (a:α):(x :: l).set (n + 1) a=x :: l.set n a:=rfl
section
variable {P:Program} {ops:Array Oper} {Q:Exit→Act→World→Prop} {md:Region.Mode} {S:World→Prop} {ds:List Nat} {oi:Oper} {v:Value} {fuel:Nat} {l:Array Bool} {a:Act} {w:World} {a':Act} {T:Bool × List (List Nat × List Nat)} {B:List Nat}
theorem pu (i:Nat) (N:Tmp) (l':Array Bool) (h:cB P md ops Q S ds fuel l' a' w) (hi:ops[i]? = some oi:=by rfl) (hN:oi.dst=some N:=by rfl) (hc:sR md ops l l' i=true:=by kernel_rfl) (hQ:∀ c a w,Q (.panic c) (a.put oi.dst undef) w→Q (.panic c) a w:=by exact fun _ _ _ h=>h) (hy:Yields P ops oi undef a:=by exact Or.inr ⟨by rfl,rfl⟩) (ha:a.put (some N) undef=a':=by (simp only [Act.put,s1,s2,s3,aJ,aK];rfl)):cB P md ops Q S ds (fuel + 1) l a w:=fU l' hi hN hc hQ hy ha h
theorem puT (hT:aA (hG md ops=T)) (i:Nat) (N:Tmp) (l':Array Bool) (h:cB P md ops Q S ds fuel l' a' w) (hi:ops[i]? = some oi:=by rfl) (hN:oi.dst=some N:=by rfl) (hc:yT T l.toList l'.toList i=true:=by kernel_rfl) (hQ:∀ c a w,Q (.panic c) (a.put oi.dst undef) w→Q (.panic c) a w:=by exact fun _ _ _ h=>h) (hy:Yields P ops oi undef a:=by exact Or.inr ⟨by rfl,rfl⟩) (ha:a.put (some N) undef=a':=by (simp only [Act.put,s1,s2,s3,aJ,aK];rfl)):cB P md ops Q S ds (fuel + 1) l a w:=fU l' hi hN (uZ hT.out hc) hQ hy ha h
theorem pv (i:Nat) (N:Tmp) (l':Array Bool) (h:cB P md ops Q S ds fuel l' a' w) (hi:ops[i]? = some oi:=by rfl) (hN:oi.dst=some N:=by rfl) (hc:sR md ops l l' i=true:=by kernel_rfl) (hQ:∀ c a w,Q (.panic c) (a.put oi.dst v) w→Q (.panic c) a w:=by exact fun _ _ _ h=>h) (hy:Yields P ops oi v a:=by (refine Or.inl ⟨by rfl,?_⟩;intro w';go_simp;with_reducible rfl)) (ha:a.put (some N) v=a':=by (simp only [Act.put,s1,s2,s3,aJ,aK];rfl)):cB P md ops Q S ds (fuel + 1) l a w:=fU l' hi hN hc hQ hy ha h
theorem kW (hT:aA (hG md ops=T)) (i:Nat) (N:Tmp) (l':Array Bool) (h:cB P md ops Q S ds fuel l' a' w) (hi:ops[i]? = some oi:=by rfl) (hN:oi.dst=some N:=by rfl) (hc:yT T l.toList l'.toList i=true:=by kernel_rfl) (hQ:∀ c a w,Q (.panic c) (a.put oi.dst v) w→Q (.panic c) a w:=by exact fun _ _ _ h=>h) (hy:Yields P ops oi v a:=by (refine Or.inl ⟨by rfl,?_⟩;intro w';go_simp;with_reducible rfl)) (ha:a.put (some N) v=a':=by (simp only [Act.put,s1,s2,s3,aJ,aK];rfl)):cB P md ops Q S ds (fuel + 1) l a w:=fU l' hi hN (uZ hT.out hc) hQ hy ha h
theorem tv (i:Nat) (N:Tmp) (l':Array Bool) (hS:S w) (h:cB P md ops Q S ds fuel l' a' w) (hi:ops[i]? = some oi:=by rfl) (hN:oi.dst=some N:=by rfl) (hc:nG md ops ds l l' i=true:=by kernel_rfl) (hQ:∀ c a w,Q (.panic c) (a.put oi.dst v) w→Q (.panic c) a w:=by exact fun _ _ _ h=>h) (hy:YieldsIf P ops S oi v a:=by (refine Or.inl ⟨by rfl,?_⟩;intro w' hs_;(try dsimp only at hs_);go_simp;with_reducible rfl)) (ha:a.put (some N) v=a':=by (simp only [Act.put,s1,s2,s3,aJ,aK];rfl)):cB P md ops Q S ds (fuel + 1) l a w:=take_ l' hi hN hc hQ hy hS ha h
theorem xP (hT:aA (hG md ops=T)) (hB:aA (iE T.2 B=true)) (i:Nat) (N:Tmp) (l':Array Bool) (hS:S w) (h:cB P md ops Q S ds fuel l' a' w) (hi:ops[i]? = some oi:=by rfl) (hN:oi.dst=some N:=by rfl) (hc:xE T B ds l.toList l'.toList i=true:=by kernel_rfl) (hQ:∀ c a w,Q (.panic c) (a.put oi.dst v) w→Q (.panic c) a w:=by exact fun _ _ _ h=>h) (hy:YieldsIf P ops S oi v a:=by (refine Or.inl ⟨by rfl,?_⟩;intro w' hs_;(try dsimp only at hs_);go_simp;with_reducible rfl)) (ha:a.put (some N) v=a':=by (simp only [Act.put,s1,s2,s3,aJ,aK];rfl)):cB P md ops Q S ds (fuel + 1) l a w:=take_ l' hi hN (wR hT.out hB.out hc) hQ hy hS ha h
end
end Go.Proofs.Ythipjoioicmcnaa.Sh
namespace Go.Proofs.YthipjoioicmcnaaW.PrintWords
open Go.RowKit
section
variable {P:Program} {d:Nat} {xs ys:Array Value} {f:Field} {fs:List Field} {a b:Value} {r s:Bool} {w:World}
theorem wG (hn : (f.name == "_") = false) (ha : (part f.type xs f.offset).run P w = .ok a w) (hb : (part f.type ys f.offset).run P w = .ok b w) (he : (Op.equalIn d f.type a b).run P w = .ok r w) : (Op.eqFields d xs ys [f]).run P w = .ok r w := by
 have hn' : f.name ≠ "_" := by simpa using hn
 simp only [Op.eqFields,if_pos hn',Sem.run_bind,ha,hb,he,Result.andThen_ok]
 cases r <;> simp
theorem kK (hn : (f.name == "_") = false) (ha : (part f.type xs f.offset).run P w = .ok a w) (hb : (part f.type ys f.offset).run P w = .ok b w) (he : (Op.equalIn d f.type a b).run P w = .ok r w) (hr : (Op.eqFields d xs ys fs).run P w = .ok s w) : (Op.eqFields d xs ys (f :: fs)).run P w = .ok (r && s) w := by
 have hn' : f.name ≠ "_" := by simpa using hn
 rw [Op.eqFields]
 simp only [if_pos hn',Sem.run_bind,ha,hb,he,Result.andThen_ok]
 cases r
 ·simp
 ·simpa using hr
theorem aBZ {t:TypeId} {fs:Array Field} (hu:P.underlying t=some (.struct fs)) (hp:P.stoodInHeld t=false) (h:(Op.eqFields d xs ys fs.toList).run P w = .ok r w):(Op.equalIn (d + 1) t (.agg xs) (.agg ys)).run P w = .ok r w:=by
 have hf:P.fieldsOf t=fs:=by simp [Program.fieldsOf,hu]
 rw [run_equalIn_struct (P:=P) w d t xs ys (by rw [hf];exact hu) hp,hf]
 exact h
end
end Go.Proofs.YthipjoioicmcnaaW.PrintWords
namespace Go.Proofs.YthipjoioicmcnaaW.PrintWords
theorem cP.one {α:Type} {R:α→List Value→Prop} {ps:List α} {cs:List Value} {p:α} {v:Value} (hp:R p [v]) (h:cP R 1 ps cs):cP R 1 (p :: ps) (v :: cs):=by
 refine ⟨by simp [h.1],fun j q hq=>?_⟩
 cases j with
 | zero =>
  simp only [List.getElem?_cons_zero,Option.some.injEq] at hq
  subst hq
  simpa using hp
 | succ j =>
  simp only [List.getElem?_cons_succ] at hq
  have h1:=h.2 j q hq
  simpa [Nat.mul_one] using h1
theorem cP.front {α:Type} {R:α→List Value→Prop} {size:Nat} {ps:List α} {cs c all:List Value} {p:α} (hp:R p c) (hc:c.length=size) (h:cP R size ps cs) (ha:c ++ cs=all):cP R size (p :: ps) all:=by
 subst ha
 refine ⟨by rw [List.length_append,hc,h.1,List.length_cons,Nat.succ_mul,Nat.add_comm],fun j q hq=>?_⟩
 cases j with
 | zero =>
  simp only [List.getElem?_cons_zero,Option.some.injEq] at hq
  subst hq
  rw [Nat.zero_mul,List.drop_zero,List.take_append_of_le_length (by omega),List.take_of_length_le (by omega)]
  exact hp
 | succ j =>
  simp only [List.getElem?_cons_succ] at hq
  have h1:=h.2 j q hq
  rw [Nat.succ_mul,List.drop_append,List.drop_of_length_le (by rw [hc];exact Nat.le_add_left _ _),List.nil_append,hc,Nat.add_sub_cancel]
  exact h1
theorem cP.c2 {α:Type} {R:α→List Value→Prop} {ps:List α} {cs:List Value} {p:α} {va vb:Value} (hp:R p [va,vb]) (h:cP R 2 ps cs):cP R 2 (p :: ps) (va :: vb :: cs):=cP.front hp rfl h rfl
theorem cP.c3 {α:Type} {R:α→List Value→Prop} {ps:List α} {cs:List Value} {p:α} {va vb vc:Value} (hp:R p [va,vb,vc]) (h:cP R 3 ps cs):cP R 3 (p :: ps) (va :: vb :: vc :: cs):=cP.front hp rfl h rfl
theorem cP.c4 {α:Type} {R:α→List Value→Prop} {ps:List α} {cs:List Value} {p:α} {va vb vc vd:Value} (hp:R p [va,vb,vc,vd]) (h:cP R 4 ps cs):cP R 4 (p :: ps) (va :: vb :: vc :: vd :: cs):=cP.front hp rfl h rfl
theorem cP.c5 {α:Type} {R:α→List Value→Prop} {ps:List α} {cs:List Value} {p:α} {va vb vc vd ve:Value} (hp:R p [va,vb,vc,vd,ve]) (h:cP R 5 ps cs):cP R 5 (p :: ps) (va :: vb :: vc :: vd :: ve :: cs):=cP.front hp rfl h rfl
theorem cP.c6 {α:Type} {R:α→List Value→Prop} {ps:List α} {cs:List Value} {p:α} {va vb vc vd ve vf:Value} (hp:R p [va,vb,vc,vd,ve,vf]) (h:cP R 6 ps cs):cP R 6 (p :: ps) (va :: vb :: vc :: vd :: ve :: vf :: cs):=cP.front hp rfl h rfl
theorem cP.c7 {α:Type} {R:α→List Value→Prop} {ps:List α} {cs:List Value} {p:α} {va vb vc vd ve vf vg:Value} (hp:R p [va,vb,vc,vd,ve,vf,vg]) (h:cP R 7 ps cs):cP R 7 (p :: ps) (va :: vb :: vc :: vd :: ve :: vf :: vg :: cs):=cP.front hp rfl h rfl
theorem cP.c8 {α:Type} {R:α→List Value→Prop} {ps:List α} {cs:List Value} {p:α} {va vb vc vd ve vf vg vh:Value} (hp:R p [va,vb,vc,vd,ve,vf,vg,vh]) (h:cP R 8 ps cs):cP R 8 (p :: ps) (va :: vb :: vc :: vd :: ve :: vf :: vg :: vh :: cs):=cP.front hp rfl h rfl
theorem cP.c9 {α:Type} {R:α→List Value→Prop} {ps:List α} {cs:List Value} {p:α} {va vb vc vd ve vf vg vh vi:Value} (hp:R p [va,vb,vc,vd,ve,vf,vg,vh,vi]) (h:cP R 9 ps cs):cP R 9 (p :: ps) (va :: vb :: vc :: vd :: ve :: vf :: vg :: vh :: vi :: cs):=cP.front hp rfl h rfl
theorem cP.c10 {α:Type} {R:α→List Value→Prop} {ps:List α} {cs:List Value} {p:α} {va vb vc vd ve vf vg vh vi vj:Value} (hp:R p [va,vb,vc,vd,ve,vf,vg,vh,vi,vj]) (h:cP R 10 ps cs):cP R 10 (p :: ps) (va :: vb :: vc :: vd :: ve :: vf :: vg :: vh :: vi :: vj :: cs):=cP.front hp rfl h rfl
end Go.Proofs.YthipjoioicmcnaaW.PrintWords
namespace Go.Proofs.Ythipjoioicmcnaa.G
open Go.RowKit Go.Proofs.YthipjoioicmcnaaW.PrintWords Go.Proofs.YthipjoioicmcnaaW.PrintLast Go.Proofs.YthipjoioicmcnaaW.PrintMore
attribute [local go_sem] eS eR fI fJ eI eJ eU eT
def aDG:Option Int→Value
 | none => .nilIface
 | some c => .iface 0 (.int .i64 c)
theorem dS:aDG none = .nilIface:=rfl
theorem dT (c:Int):aDG (some c) = .iface 0 (.int .i64 c):=rfl
theorem info3:(Try.prog.info? 3).map (fun i=>(i.zero,i.size,i.bytes))=some (some (.int .i64 0),1,8):=by kernel_rfl
theorem mB:(Try.prog.info? 4).map (fun i=>(i.zero,i.size,i.bytes))=some (some (.bool false),1,1):=by kernel_rfl
theorem aDY:(Try.prog.info? 5).map (fun i=>(i.zero,i.size,i.bytes))=some (some (.int .u8 0),1,1):=by kernel_rfl
theorem aBQ:(Try.prog.info? 24).map (fun i=>(i.zero,i.size,i.bytes))=some (some (.slice none 0 0),1,24):=by kernel_rfl
theorem aBB:(Try.prog.info? 31).map (fun i=>(i.zero,i.size,i.bytes))=some (some (.slice none 0 0),1,24):=by kernel_rfl
theorem sA:(Try.prog.info? 66).map (fun i=>(i.zero,i.size,i.bytes))=some (some (.agg #[(.bool false),(.int .i64 0),(.int .i64 0)]),3,24):=by kernel_rfl
theorem hJ:(Try.prog.info? 99).map (fun i=>(i.zero,i.size,i.bytes))=some (some (.agg #[(.int .i64 0),(.int .i64 0),(.int .i64 0),(.int .i64 0),(.int .i64 0),(.int .i64 0)]),6,48):=by kernel_rfl
structure eE where
 f0:Bool
 f1:Int
 f2:Int
def z66:eE:=⟨false,(0:Int),(0:Int)⟩
def jU:Kd eE:=Kd.iso (Kd.pair Kd.bool (Kd.pair (Kd.int .i64) (Kd.int .i64))) (fun x:eE=>(x.f0,x.f1,x.f2))
theorem vP {w:World} {x:eE} {cs:List Value} (h:jU.K w x cs):cs=[.bool x.f0,.int .i64 x.f1,.int .i64 x.f2]:=by
 obtain ⟨_,_,rfl,rfl,⟨_,_,rfl,rfl,rfl⟩⟩:=h
 exact rfl
theorem mR (w:World) (base:Nat) (ok:Nat→Prop) (x:eE)  : jU.M w base ok x [.bool x.f0,.int .i64 x.f1,.int .i64 x.f2]:=⟨[.bool x.f0],[.int .i64 x.f1,.int .i64 x.f2],rfl,rfl,⟨[.int .i64 x.f1],[.int .i64 x.f2],rfl,rfl,rfl⟩⟩
def aI (xs:List eE) (i:Int):eE:=xs.getD i.toNat z66
theorem gT {w:World} {A:Option Addr} {n:Nat} {xs:List eE} (h:Kd.C jU w A n xs) (i:Int) (h0:0≤i) (h1:i < n):∃ ad ,A=some ad∧w.cell? (ad.add (i.toNat * 3))=some (.bool (aI xs i).f0)∧w.cell? ⟨(ad.add (i.toNat * 3)).block,(ad.add (i.toNat * 3)).off + 1,none⟩=some (.int .i64 (aI xs i).f1)∧w.cell? ⟨(ad.add (i.toNat * 3)).block,(ad.add (i.toNat * 3)).off + 2,none⟩=some (.int .i64 (aI xs i).f2):=by
 obtain ⟨ad,c,e,_,hK,hc0⟩:=Kd.C_get h z66 i h0 h1
 have hc:∀ j u,c[j]? = some u→w.cell? (ad.add (i.toNat * 3 + j))=some u:=hc0
 obtain rfl:=vP hK
 exact ⟨ad,e,hc 0 _ rfl,by rw [← gW _ _ 1 (by omega)];exact hc 1 _ rfl,by rw [← gW _ _ 2 (by omega)];exact hc 2 _ rfl⟩
structure bN where
 f0:Int
 f1:Int
 f2:Int
 f3:Int
 f4:Int
 f5:Int
def z99:bN:=⟨(0:Int),(0:Int),(0:Int),(0:Int),(0:Int),(0:Int)⟩
def eV:Kd bN:=Kd.iso (Kd.pair (Kd.int .i64) (Kd.pair (Kd.int .i64) (Kd.pair (Kd.int .i64) (Kd.pair (Kd.int .i64) (Kd.pair (Kd.int .i64) (Kd.int .i64)))))) (fun x:bN=>(x.f0,x.f1,x.f2,x.f3,x.f4,x.f5))
theorem wX {w:World} {x:bN} {cs:List Value} (h:eV.K w x cs):cs=[.int .i64 x.f0,.int .i64 x.f1,.int .i64 x.f2,.int .i64 x.f3,.int .i64 x.f4,.int .i64 x.f5]:=by
 obtain ⟨_,_,rfl,rfl,⟨_,_,rfl,rfl,⟨_,_,rfl,rfl,⟨_,_,rfl,rfl,⟨_,_,rfl,rfl,rfl⟩⟩⟩⟩⟩:=h
 exact rfl
theorem gI (w:World) (base:Nat) (ok:Nat→Prop) (x:bN)  : eV.M w base ok x [.int .i64 x.f0,.int .i64 x.f1,.int .i64 x.f2,.int .i64 x.f3,.int .i64 x.f4,.int .i64 x.f5]:=⟨[.int .i64 x.f0],[.int .i64 x.f1,.int .i64 x.f2,.int .i64 x.f3,.int .i64 x.f4,.int .i64 x.f5],rfl,rfl,⟨[.int .i64 x.f1],[.int .i64 x.f2,.int .i64 x.f3,.int .i64 x.f4,.int .i64 x.f5],rfl,rfl,⟨[.int .i64 x.f2],[.int .i64 x.f3,.int .i64 x.f4,.int .i64 x.f5],rfl,rfl,⟨[.int .i64 x.f3],[.int .i64 x.f4,.int .i64 x.f5],rfl,rfl,⟨[.int .i64 x.f4],[.int .i64 x.f5],rfl,rfl,rfl⟩⟩⟩⟩⟩
def aC (xs:List bN) (i:Int):bN:=xs.getD i.toNat z99
theorem dD {w:World} {A:Option Addr} {n:Nat} {xs:List bN} (h:Kd.C eV w A n xs) (i:Int) (h0:0≤i) (h1:i < n):∃ ad ,A=some ad∧w.cell? (ad.add (i.toNat * 6))=some (.int .i64 (aC xs i).f0)∧w.cell? ⟨(ad.add (i.toNat * 6)).block,(ad.add (i.toNat * 6)).off + 1,none⟩=some (.int .i64 (aC xs i).f1)∧w.cell? ⟨(ad.add (i.toNat * 6)).block,(ad.add (i.toNat * 6)).off + 2,none⟩=some (.int .i64 (aC xs i).f2)∧w.cell? ⟨(ad.add (i.toNat * 6)).block,(ad.add (i.toNat * 6)).off + 3,none⟩=some (.int .i64 (aC xs i).f3)∧w.cell? ⟨(ad.add (i.toNat * 6)).block,(ad.add (i.toNat * 6)).off + 4,none⟩=some (.int .i64 (aC xs i).f4)∧w.cell? ⟨(ad.add (i.toNat * 6)).block,(ad.add (i.toNat * 6)).off + 5,none⟩=some (.int .i64 (aC xs i).f5):=by
 obtain ⟨ad,c,e,_,hK,hc0⟩:=Kd.C_get h z99 i h0 h1
 have hc:∀ j u,c[j]? = some u→w.cell? (ad.add (i.toNat * 6 + j))=some u:=hc0
 obtain rfl:=wX hK
 exact ⟨ad,e,hc 0 _ rfl,by rw [← gW _ _ 1 (by omega)];exact hc 1 _ rfl,by rw [← gW _ _ 2 (by omega)];exact hc 2 _ rfl,by rw [← gW _ _ 3 (by omega)];exact hc 3 _ rfl,by rw [← gW _ _ 4 (by omega)];exact hc 4 _ rfl,by rw [← gW _ _ 5 (by omega)];exact hc 5 _ rfl⟩
def eB (xs:List (List Int)) (i:Int):(List Int):=xs.getD i.toNat ([]:List Int)
theorem pS {w:World} {A:Option Addr} {n:Nat} {xs:List (List Int)} (h:Kd.C (Kd.slice 3 (Kd.int .i64)) w A n xs) (i:Int) (h0:0≤i) (h1:i < n):∃ ad A0 c0,A=some ad∧w.cell? (ad.add i.toNat)=some (.slice A0 (eB xs i).length c0)∧(eB xs i).length≤c0∧(Kd.int .i64).C w A0 (eB xs i).length (eB xs i):=by
 obtain ⟨ad,c,e,_,hK,hc0⟩:=Kd.C_get h ([]:List Int) i h0 h1
 have hc:∀ j u,c[j]? = some u→w.cell? (ad.add (i.toNat * 1 + j))=some u:=hc0
 obtain ⟨A0,c0,rfl,l0,g0⟩:=hK
 exact ⟨ad,A0,c0,e,by have hq:=hc 0 _ rfl;rwa [Nat.mul_one,Nat.add_zero] at hq,l0,g0⟩
def fW (xs:List (List Bool)) (i:Int):(List Bool):=xs.getD i.toNat ([]:List Bool)
theorem vS {w:World} {A:Option Addr} {n:Nat} {xs:List (List Bool)} (h:Kd.C (Kd.slice 4 Kd.bool) w A n xs) (i:Int) (h0:0≤i) (h1:i < n):∃ ad A0 c0,A=some ad∧w.cell? (ad.add i.toNat)=some (.slice A0 (fW xs i).length c0)∧(fW xs i).length≤c0∧Kd.bool.C w A0 (fW xs i).length (fW xs i):=by
 obtain ⟨ad,c,e,_,hK,hc0⟩:=Kd.C_get h ([]:List Bool) i h0 h1
 have hc:∀ j u,c[j]? = some u→w.cell? (ad.add (i.toNat * 1 + j))=some u:=hc0
 obtain ⟨A0,c0,rfl,l0,g0⟩:=hK
 exact ⟨ad,A0,c0,e,by have hq:=hc 0 _ rfl;rwa [Nat.mul_one,Nat.add_zero] at hq,l0,g0⟩
end Go.Proofs.Ythipjoioicmcnaa.G
namespace Go.Proofs.Ythipjoioicmcnaa.G
open Go.RowKit Go.Proofs.YthipjoioicmcnaaW.PrintWords Go.Proofs.YthipjoioicmcnaaW.PrintLast Go.Proofs.YthipjoioicmcnaaW.PrintMore Go.Proofs.Ythipjoioicmcnaa.Sh
attribute [local go_sem] eS eR fI fJ eI eJ eU eT
def aY.f (a0:Int) (a1:Int) (a2:Int):Option (Bool):=if a0 ≥ a1 then (some (decide (a0≤a2))) else (some false)
theorem aY.calls (a0:Int) (a1:Int) (a2:Int) (r:Bool) (w:World) (h:aY.f a0 a1 a2=some r) :
  Calls Try.prog 61 #[.int .i64 a0,.int .i64 a1,.int .i64 a2] w fun e w'=>e = .returned (.bool r)∧bT w w':=by
 have H:(if a0 ≥ a1 then (some (decide (a0≤a2))) else (some false))=some r:=h;clear h
 by_cases c4:a0 ≥ a1
 ·rw [if_pos c4] at H;have c4b0:decide (a1≤a0)=true:=decide_eq_true c4;clear c4;obtain rfl:=os H
  go_enter Try.func61,Try.ntmps61
  go_wp2;go_ret;exact ⟨e1,dn⟩
 ·rw [if_neg c4] at H;have c4b0:decide (a1≤a0)=false:=decide_eq_false c4;clear c4;obtain rfl:=os H
  go_enter Try.func61,Try.ntmps61
  go_wp2;go_ret;exact ⟨e1,dn⟩
mutual
def bZ.j0:Nat→Bool→Int→ByteArray→Option (Bool)
 | 0,_,_,_=>none
 | k + 1,x17,x102000,x102001=>if x17=true then (some false) else (bZ.l0 k (x102001.size:Int) 0 x102000 x102001)
def bZ.l0:Nat→Int→Int→Int→ByteArray→Option (Bool)
 | 0,_,_,_,_=>none
 | k + 1,x20,x21,x102000,x102001=>if x21 < x20 then (if 0≤x21 then (if x21 < (x102001.size:Int) then (if (bt x102001 x21)=48 then (bZ.l0 k x20 (wrap64 (x21 + 1)) x102000 x102001) else (if (bt x102001 x21)=49 then (bZ.l0 k x20 (wrap64 (x21 + 1)) x102000 x102001) else (some false))) else (none)) else (none)) else (some true)
end
def bZ.f (k:Nat) (A2:Int) (A1:ByteArray):Option (Bool):=(aY.f A2 0 12).bind fun A7=>(if A7=true then (if 0≤(IntKind.u64.wrap (A2)) then (bZ.j0 k ((A1.size:Int) != (shl .i64 1 (IntKind.u64.wrap (A2)))) A2 A1) else (none)) else (bZ.j0 k true A2 A1))
theorem bZ.calls (k:Nat) (A2:Int) (A1:ByteArray) (r:Bool) (w:World) (h:bZ.f k A2 A1=some r) :
  Calls Try.prog 45 #[.agg #[.int .i64 A2,.string A1]] w fun e w'=>e = .returned (.bool r)∧Below w.heap.size w w':=by
 have hu26:=Try.underlying26;have HB:=aA.mk (Below.refl w.heap.size w);have H:((aY.f A2 0 12).bind fun A7=>(if A7=true then (if 0≤(IntKind.u64.wrap (A2)) then (bZ.j0 k ((A1.size:Int) != (shl .i64 1 (IntKind.u64.wrap (A2)))) A2 A1) else (none)) else (bZ.j0 k true A2 A1)))=some r:=h;clear h;have HC2:=aA.mk H;clear H
 go_enter Try.func45,Try.ntmps45
 go_upto_region 1 with (first|((with_reducible refine bM (N:=1) rfl ?_);(try (refine cV (by rfl) ?_;dsimp only));refine bx (N:=1) (cs:=#[.int .i64 A2,.string A1]) (t:=26) ?_;intro A5 hg w3 hbox hb;have A3:=aA.mk (hbox);have GW101:=aA.mk ((by rw [hg];exact (aM (tb HB)):w.heap.size≤A5));have GE101:=aA.mk ((by rw [hg];exact (aM (tb HB)):w.heap.size≤A5));replace HB:=aA.mk (aE (tb HB) hb);clear hb hbox hg))
 (try simp only [Act.put,List.setIfInBounds_toArray,List.set_cons_zero,List.set_cons_succ])
 go_cut [17] (fun v17 wc=>∃ (kq:Nat) (A6:Bool),v17 = .bool A6∧aA (bZ.j0 kq A6 A2 A1=some r)∧aA (kq≤k)∧aA (wc.heap[A5]? = some (.cells #[.int .i64 A2,.string A1] 26 (0,0)))∧aA (Below w.heap.size w wc))
 case first =>
  have H:=HC2.out;clear HC2;replace H:=ob H;obtain ⟨A7,A40,H⟩:=H
  try dsimp only at H
  have A4:=aA.mk A40;clear A40
  by_cases c5:A7=true
  ·subst c5
   have H1:(if 0≤(IntKind.u64.wrap (A2)) then (bZ.j0 k ((A1.size:Int) != (shl .i64 1 (IntKind.u64.wrap (A2)))) A2 A1) else (none))=some r:=by rw [if_pos rfl] at H;exact H
   clear H;have H:=H1;clear H1;obtain ⟨ji6,hji6⟩:∃ j_:Int,(IntKind.u64.wrap (A2))=j_:=⟨_,rfl⟩
   replace H:(if 0≤(ji6) then (bZ.j0 k ((A1.size:Int) != (shl .i64 1 (ji6))) A2 A1) else (none))=some r:=by first|(rw [hji6] at H;exact H)|(simp only [hji6] at H ⊢;exact H)
   (try rw [hji6] at A4)
   by_cases c7:0≤(ji6)
   ·rw [if_pos c7] at H;have c7b0:=eq_true c7;have c7b1:decide (0≤(ji6))=true:=decide_eq_true c7;clear c7;obtain ⟨ji8,hji8⟩:∃ j_:Int,(shl .i64 1 (ji6))=j_:=⟨_,rfl⟩
    replace H:(bZ.j0 k ((A1.size:Int) != (ji8)) A2 A1)=some r:=by first|(rw [hji8] at H;exact H)|(simp only [hji8] at H ⊢;exact H)
    (try rw [hji8] at A4)
    have hji8_:(IntKind.i64.wrap (1 * 2 ^ min (ji6).toNat 64))=ji8:=hji8;have hji8z:(ji6)≤64→(IntKind.i64.wrap (1 * 2 ^ (ji6).toNat))=ji8:=gK hji8
    have hji8u:(IntKind.i64.wrap (2 ^ min (ji6).toNat 64))=ji8:=by have h_:=hji8_;rw [Int.one_mul] at h_;exact h_
    have hji8v:(ji6)≤64→(IntKind.i64.wrap (2 ^ (ji6).toNat))=ji8:=fun hle_=>by have h_:=hji8z hle_;rw [Int.one_mul] at h_;exact h_
    have hji8y:(wrap64 (1 * 2 ^ min (ji6).toNat 64))=ji8:=(aJ _).symm.trans hji8_
    have hji8x:(ji6)≤64→(wrap64 (1 * 2 ^ (ji6).toNat))=ji8:=fun h_=>(aJ _).symm.trans (hji8z h_)
    have H':=aA.mk H;clear H;have hcz9__:=lP A3;have hfz9__:=f_ A3;go_wp2_with (first|((with_reducible refine aD (f:=61) rfl ?_);refine aT (some 6) rfl rfl Try.func61 (by kernel_rfl) rfl #[.int .i64 A2,.int .i64 0,.int .i64 12] rfl ml ?_;(with_reducible refine (aY.calls A2 0 12 true _ A4.out).mono ?_);rintro e w' ⟨rfl,⟨nd,rfl⟩⟩;refine ⟨_,rfl,?_⟩));go_meet
    case rel=>exact ⟨_,(((A1.size:Int) != (ji8))),(by first|rfl|(simp;done)|(simp only [← hji8] <;> (first|rfl|simp))|(simp [*];done)),(by first|exact H'|(rw [hji8];exact H')),⟨by first|omega|exact Nat.le_refl _⟩,⟨dr A3⟩,⟨by exact tb HB⟩⟩
   ·rw [if_neg c7] at H;exact absurd H (by simp)
  ·replace c5:=Bool.eq_false_iff.mpr c5;subst c5
   have H1:(bZ.j0 k true A2 A1)=some r:=by rw [if_neg (show ¬ (false=true) by decide)] at H;exact H
   clear H;have H:=H1;clear H1;have H':=aA.mk H;clear H;have hcz10__:=lP A3;have hfz10__:=f_ A3;go_wp2_with (first|((with_reducible refine aD (f:=61) rfl ?_);refine aT (some 6) rfl rfl Try.func61 (by kernel_rfl) rfl #[.int .i64 A2,.int .i64 0,.int .i64 12] rfl ml ?_;(with_reducible refine (aY.calls A2 0 12 false _ A4.out).mono ?_);rintro e w' ⟨rfl,⟨nd,rfl⟩⟩;refine ⟨_,rfl,?_⟩));go_meet
   case rel=>exact ⟨_,(true),(by first|rfl|(simp;done)|(simp [*];done)),(by first|exact H'|(rw [hji8];exact H')),⟨by first|omega|exact Nat.le_refl _⟩,⟨dr A3⟩,⟨by exact tb HB⟩⟩
 case rest =>
  clear HC2;obtain ⟨kq,A6,rfl,HA,HJ1,A3,HB⟩:=hcut
  cases kq with
  | zero=>exact absurd HA.out (by simp [bZ.j0])
  | succ kj1 =>
   have H:=HA.out;clear HA;simp only [bZ.j0] at H
   by_cases c11:A6=true
   ·subst c11
    have H1:(some false)=some r:=by rw [if_pos rfl] at H;exact H
    clear H;have H:=H1;clear H1;obtain rfl:=os H;go_wp2;go_ret;exact ⟨er,tb HB⟩
   ·replace c11:=Bool.eq_false_iff.mpr c11;subst c11
    have H1:(bZ.l0 kj1 (A1.size:Int) 0 A2 A1)=some r:=by rw [if_neg (show ¬ (false=true) by decide)] at H;exact H
    clear H;have H:=H1;clear H1;have H':=aA.mk H;clear H;have hcz12__:=lP A3;have hfz12__:=f_ A3;go_wp2
    go_loopg [21] kj1 (fun kq v21 w'=>∃ (A0:Int),v21 = .int .i64 A0∧aA (bZ.l0 kq (A1.size:Int) A0 A2 A1=some r)∧aA (kq≤kj1)∧aA (w'.heap[A5]? = some (.cells #[.int .i64 A2,.string A1] 26 (0,0)))∧aA (Below w.heap.size w w'))
    case atStart=>exact ⟨(0),(by first|rfl|(simp;done)|(simp [*];done)),H',⟨Nat.le_refl _⟩,⟨dr A3⟩,⟨by exact tb HB⟩⟩
    case round =>
     clear H';obtain ⟨A0,rfl,HA,HK2,A3,HB⟩:=hrel
     cases gk with
     | zero=>exact absurd HA.out (by simp [bZ.l0])
     | succ k2 =>
      have H:=HA.out;clear HA;simp only [bZ.l0] at H
      by_cases c13:A0 < (A1.size:Int)
      ·rw [if_pos c13] at H;have c13b0:decide (A0 < (A1.size:Int))=true:=decide_eq_true c13;clear c13
       by_cases c14:0≤A0
       ·rw [if_pos c14] at H;have c14b0:decide (0≤A0)=true:=decide_eq_true c14;clear c14
        by_cases c15:A0 < (A1.size:Int)
        ·rw [if_pos c15] at H;have c15b0:decide (A0 < (A1.size:Int))=true:=decide_eq_true c15;clear c15
         by_cases c17:(bt A1 A0)=48
         ·rw [if_pos c17] at H;have c17b0:((bt A1 A0) == 48)=true:=beq_iff_eq.mpr c17;have c17b1:((bt A1 A0) != 48)=false:=bne_eq_false_iff_eq.mpr c17;clear c17;have H':=aA.mk H;clear H;have hcz18__:=lP A3;have hfz18__:=f_ A3;have p16:0≤(A0:Int):=od;have q16:A0 < (A1.size:Int):=od;have hx16:=kE A1 A0;replace p16:=eq_true p16;replace q16:=eq_true q16;go_wp2;go_roundg k2
          case measure=>have:=HJ1.out;have:=HK2.out;omega
          case rel=>exact ⟨(wrap64 (A0 + 1)),(by first|rfl|(simp;done)|(simp [*];done)),(by first|exact H'|(rw [hji8];exact H')),⟨by have:=HJ1.out;have:=HK2.out;omega⟩,⟨dr A3⟩,⟨by exact tb HB⟩⟩
         ·rw [if_neg c17] at H;have c17b0:((bt A1 A0) == 48)=false:=beq_eq_false_iff_ne.mpr c17;have c17b1:((bt A1 A0) != 48)=true:=bne_iff_ne.mpr c17
          by_cases c20:(bt A1 A0)=49
          ·rw [if_pos c20] at H;have c20b0:((bt A1 A0) == 49)=true:=beq_iff_eq.mpr c20;have c20b1:((bt A1 A0) != 49)=false:=bne_eq_false_iff_eq.mpr c20;clear c20;have H':=aA.mk H;clear H;have hcz21__:=lP A3;have hfz21__:=f_ A3;have p16:0≤(A0:Int):=od;have q16:A0 < (A1.size:Int):=od;have hx16:=kE A1 A0;replace p16:=eq_true p16;replace q16:=eq_true q16;have p19:0≤(A0:Int):=od;have q19:A0 < (A1.size:Int):=od;have hx19:=kE A1 A0;replace p19:=eq_true p19;replace q19:=eq_true q19;go_wp2;go_roundg k2
           case measure=>have:=HJ1.out;have:=HK2.out;omega
           case rel=>exact ⟨(wrap64 (A0 + 1)),(by first|rfl|(simp;done)|(simp [*];done)),(by first|exact H'|(rw [hji8];exact H')),⟨by have:=HJ1.out;have:=HK2.out;omega⟩,⟨dr A3⟩,⟨by exact tb HB⟩⟩
          ·rw [if_neg c20] at H;have c20b0:((bt A1 A0) == 49)=false:=beq_eq_false_iff_ne.mpr c20;have c20b1:((bt A1 A0) != 49)=true:=bne_iff_ne.mpr c20;obtain rfl:=os H;have hcz22__:=lP A3;have hfz22__:=f_ A3;have p16:0≤(A0:Int):=od;have q16:A0 < (A1.size:Int):=od;have hx16:=kE A1 A0;replace p16:=eq_true p16;replace q16:=eq_true q16;have p19:0≤(A0:Int):=od;have q19:A0 < (A1.size:Int):=od;have hx19:=kE A1 A0;replace p19:=eq_true p19;replace q19:=eq_true q19;go_wp2;go_ret;exact ⟨er,tb HB⟩
        ·rw [if_neg c15] at H;exact absurd H (by simp)
       ·rw [if_neg c14] at H;exact absurd H (by simp)
      ·rw [if_neg c13] at H;have c13b0:decide (A0 < (A1.size:Int))=false:=decide_eq_false c13;clear c13;obtain rfl:=os H;go_wp2;go_ret;exact ⟨er,tb HB⟩
def cO.l0:Nat→Int→List Int→Int→Int→Option (Int × Bool)
 | 0,_,_,_,_=>none
 | k + 1,x4,x7,x8,x9=>if x9 < x8 then (if 0≤x9 then (if x9 < (x7.length:Int) then (if (rd x7 x9)=0 then (cO.l0 k (wrap64 ((wrap64 (2 * x4)) + (rd x7 x9))) x7 x8 (wrap64 (x9 + 1))) else (if (rd x7 x9)=1 then (cO.l0 k (wrap64 ((wrap64 (2 * x4)) + (rd x7 x9))) x7 x8 (wrap64 (x9 + 1))) else (some (0,false)))) else (none)) else (none)) else (some (x4,true))
def cO.f (k:Nat) (l0:List Int):Option (Int × Bool):=cO.l0 k 0 l0 (l0.length:Int) 0
theorem cO.calls (k:Nat) (A0:Option Addr) (c0:Nat) (l0:List Int) (r1:Int) (r2:Bool) (w:World) (hr0:Kd.C (Kd.int .i64) w A0 l0.length l0) (hc0:l0.length≤c0) (h:cO.f k l0=some (r1,r2)) :
  Calls Try.prog 106 #[.slice A0 l0.length c0] w fun e w'=>e = .returned (.tuple #[.int .i64 r1,.bool r2])∧bT w w':=by
 have HR0:=aA.mk hr0;have HC0:=aA.mk hc0;clear hr0 hc0;have H:(cO.l0 k 0 l0 (l0.length:Int) 0)=some (r1,r2):=h;clear h;have H':=aA.mk H;clear H
 go_enter Try.func106,Try.ntmps106
 go_wp2
 go_loopg [4,9] k (fun kq v4 v9 w'=>∃ (A2:Int) (A1:Int),v4 = .int .i64 A2∧v9 = .int .i64 A1∧aA (cO.l0 kq A2 l0 (l0.length:Int) A1=some (r1,r2))∧aA (kq≤k)∧bT w w')
 case atStart=>exact ⟨(0),(0),(by first|rfl|(simp;done)|(simp [*];done)),(by first|rfl|(simp;done)|(simp [*];done)),H',⟨Nat.le_refl _⟩,by repeat (first|exact bT.refl _|apply bT.step)⟩
 case round =>
  clear H';obtain ⟨A2,A1,rfl,rfl,HA,HK1,⟨m1,rfl⟩⟩:=hrel
  cases gk with
  | zero=>exact absurd HA.out (by simp [cO.l0])
  | succ k1 =>
   have H:=HA.out;clear HA;simp only [cO.l0] at H
   by_cases c2:A1 < (l0.length:Int)
   ·rw [if_pos c2] at H;have c2b0:decide (A1 < (l0.length:Int))=true:=decide_eq_true c2;clear c2
    by_cases c3:0≤A1
    ·rw [if_pos c3] at H;have c3b0:decide (0≤A1)=true:=decide_eq_true c3;clear c3
     by_cases c4:A1 < (l0.length:Int)
     ·rw [if_pos c4] at H;have c4b0:decide (A1 < (l0.length:Int))=true:=decide_eq_true c4;clear c4
      by_cases c5:(rd l0 A1)=0
      ·rw [if_pos c5] at H;have c5b0:((rd l0 A1) == 0)=true:=beq_iff_eq.mpr c5;have c5b1:((rd l0 A1) != 0)=false:=bne_eq_false_iff_eq.mpr c5;clear c5;have H':=aA.mk H;clear H;have p101:0≤(A1:Int):=od;have q101:A1 < (l0.length:Int):=od;obtain ⟨ad101,e101,hx101_0⟩:=Kd.at_int HR0.out A1 p101 q101;cases e101;replace p101:=eq_true p101;replace q101:=eq_true q101;go_wp2;go_roundg k1
       case measure=>have:=HK1.out;omega
       case rel=>exact ⟨(wrap64 ((wrap64 (2 * A2)) + (rd l0 A1))),(wrap64 (A1 + 1)),(by first|rfl|(simp;done)|(simp [*];done)),(by first|rfl|(simp;done)|(simp [*];done)),H',⟨by have:=HK1.out;omega⟩,by repeat (first|exact bT.refl _|apply bT.step)⟩
      ·rw [if_neg c5] at H;have c5b0:((rd l0 A1) == 0)=false:=beq_eq_false_iff_ne.mpr c5;have c5b1:((rd l0 A1) != 0)=true:=bne_iff_ne.mpr c5
       by_cases c6:(rd l0 A1)=1
       ·rw [if_pos c6] at H;have c6b0:((rd l0 A1) == 1)=true:=beq_iff_eq.mpr c6;have c6b1:((rd l0 A1) != 1)=false:=bne_eq_false_iff_eq.mpr c6;clear c6;have H':=aA.mk H;clear H;have p101:0≤(A1:Int):=od;have q101:A1 < (l0.length:Int):=od;obtain ⟨ad101,e101,hx101_0⟩:=Kd.at_int HR0.out A1 p101 q101;cases e101;replace p101:=eq_true p101;replace q101:=eq_true q101;go_wp2;go_roundg k1
        case measure=>have:=HK1.out;omega
        case rel=>exact ⟨(wrap64 ((wrap64 (2 * A2)) + (rd l0 A1))),(wrap64 (A1 + 1)),(by first|rfl|(simp;done)|(simp [*];done)),(by first|rfl|(simp;done)|(simp [*];done)),H',⟨by have:=HK1.out;omega⟩,by repeat (first|exact bT.refl _|apply bT.step)⟩
       ·rw [if_neg c6] at H;have c6b0:((rd l0 A1) == 1)=false:=beq_eq_false_iff_ne.mpr c6;have c6b1:((rd l0 A1) != 1)=true:=bne_iff_ne.mpr c6;simp only [Option.some.injEq,Prod.mk.injEq] at H;obtain ⟨rfl,rfl⟩:=H;have p101:0≤(A1:Int):=od;have q101:A1 < (l0.length:Int):=od;obtain ⟨ad101,e101,hx101_0⟩:=Kd.at_int HR0.out A1 p101 q101;cases e101;replace p101:=eq_true p101;replace q101:=eq_true q101;go_wp2;go_ret2;exact ⟨e1,dn⟩
     ·rw [if_neg c4] at H;exact absurd H (by simp)
    ·rw [if_neg c3] at H;exact absurd H (by simp)
   ·rw [if_neg c2] at H;have c2b0:decide (A1 < (l0.length:Int))=false:=decide_eq_false c2;clear c2;simp only [Option.some.injEq,Prod.mk.injEq] at H;obtain ⟨rfl,rfl⟩:=H;go_wp2;go_ret2;exact ⟨e1,dn⟩
def dF.j0:Nat→List Int→Bool→Int→ByteArray→Option (Int)
 | 0,_,_,_,_=>none
 | k + 1,x1,x16,x102000,x102001=>if x16=true then (some (-1)) else ((cO.f k x1).bind fun bt103=>(if bt103.2=true then (if 0≤bt103.1 then (if bt103.1 < (x102001.size:Int) then (some (((bt x102001 bt103.1) - 48) % 256)) else (none)) else (none)) else (some (-1))))
def dF.f (k:Nat) (A2:Int) (A0:ByteArray) (l1:List Int):Option (Int):=(bZ.f k A2 A0).bind fun A8=>(if A8=true then (dF.j0 k l1 ((l1.length:Int) != A2) A2 A0) else (dF.j0 k l1 true A2 A0))
theorem dF.calls (k:Nat) (A2:Int) (A0:ByteArray) (A1:Option Addr) (c1:Nat) (l1:List Int) (r:Int) (w:World) (hr1:Kd.C (Kd.int .i64) w A1 l1.length l1) (hc1:l1.length≤c1) (h:dF.f k A2 A0 l1=some r) :
  Calls Try.prog 48 #[.agg #[.int .i64 A2,.string A0],.slice A1 l1.length c1] w fun e w'=>e = .returned (.int .i64 r)∧Below w.heap.size w w':=by
 have hu26:=Try.underlying26;have HR1:=aA.mk hr1;have HC1:=aA.mk hc1;clear hr1 hc1;have HB:=aA.mk (Below.refl w.heap.size w);have H:((bZ.f k A2 A0).bind fun A8=>(if A8=true then (dF.j0 k l1 ((l1.length:Int) != A2) A2 A0) else (dF.j0 k l1 true A2 A0)))=some r:=h;clear h;have HC3:=aA.mk H;clear H
 go_enter Try.func48,Try.ntmps48
 go_upto_region 1 with (first|((with_reducible refine bM (N:=2) rfl ?_);(try (refine cV (by rfl) ?_;dsimp only));refine bx (N:=2) (cs:=#[.int .i64 A2,.string A0]) (t:=26) ?_;intro A6 hg w4 hbox hb;have A3:=aA.mk (hbox);have GW101:=aA.mk ((by rw [hg];exact (aM (tb HB)):w.heap.size≤A6));have GE101:=aA.mk ((by rw [hg];exact (aM (tb HB)):w.heap.size≤A6));replace HB:=aA.mk (aE (tb HB) hb);clear hb hbox hg))
 (try simp only [Act.put,List.setIfInBounds_toArray,List.set_cons_zero,List.set_cons_succ])
 go_cut [16] (fun v16 wc=>∃ (kq:Nat) (A7:Bool),v16 = .bool A7∧aA (dF.j0 kq l1 A7 A2 A0=some r)∧aA (kq≤k)∧aA (wc.heap[A6]? = some (.cells #[.int .i64 A2,.string A0] 26 (0,0)))∧aA (Below w.heap.size w wc))
 case first =>
  have H:=HC3.out;clear HC3;replace H:=ob H;obtain ⟨A8,A50,H⟩:=H
  try dsimp only at H
  have A5:=aA.mk A50;clear A50
  by_cases c6:A8=true
  ·subst c6
   have H1:(dF.j0 k l1 ((l1.length:Int) != A2) A2 A0)=some r:=by rw [if_pos rfl] at H;exact H
   clear H;have H:=H1;clear H1;have H':=aA.mk H;clear H;have hcz7__:=lP A3;have hfz7__:=f_ A3;go_wp2_with (first|((with_reducible refine aD (f:=45) rfl ?_);refine aT (some 8) rfl rfl Try.func45 (by kernel_rfl) rfl #[.agg #[.int .i64 A2,.string A0]] rfl ml ?_;(with_reducible refine (bZ.calls k A2 A0 true _ A5.out).mono ?_);rintro e w8 ⟨rfl,hb⟩;refine ⟨_,rfl,?_⟩;replace A3:=aA.mk (aQ (g:=A6) (o := .cells #[.int .i64 A2,.string A0] 26 (0,0)) (dr A3) hb);replace HB:=aA.mk (aE (tb HB) hb);(try clear hb);(try clear hb2);(try clear hk);(try clear hi);have hcz9__:=lP A3;have hfz9__:=f_ A3));go_meet
   case rel=>exact ⟨_,(((l1.length:Int) != A2)),(by first|rfl|(simp;done)|(simp [*];done)),H',⟨by first|omega|exact Nat.le_refl _⟩,⟨dr A3⟩,⟨by exact tb HB⟩⟩
  ·replace c6:=Bool.eq_false_iff.mpr c6;subst c6
   have H1:(dF.j0 k l1 true A2 A0)=some r:=by rw [if_neg (show ¬ (false=true) by decide)] at H;exact H
   clear H;have H:=H1;clear H1;have H':=aA.mk H;clear H;have hcz10__:=lP A3;have hfz10__:=f_ A3;go_wp2_with (first|((with_reducible refine aD (f:=45) rfl ?_);refine aT (some 8) rfl rfl Try.func45 (by kernel_rfl) rfl #[.agg #[.int .i64 A2,.string A0]] rfl ml ?_;(with_reducible refine (bZ.calls k A2 A0 false _ A5.out).mono ?_);rintro e w11 ⟨rfl,hb⟩;refine ⟨_,rfl,?_⟩;replace A3:=aA.mk (aQ (g:=A6) (o := .cells #[.int .i64 A2,.string A0] 26 (0,0)) (dr A3) hb);replace HB:=aA.mk (aE (tb HB) hb);(try clear hb);(try clear hb2);(try clear hk);(try clear hi)));go_meet
   case rel=>exact ⟨_,(true),(by first|rfl|(simp;done)|(simp [*];done)),H',⟨by first|omega|exact Nat.le_refl _⟩,⟨dr A3⟩,⟨by exact tb HB⟩⟩
 case rest =>
  clear HC3;obtain ⟨kq,A7,rfl,HA,HJ2,A3,HB⟩:=hcut
  cases kq with
  | zero=>exact absurd HA.out (by simp [dF.j0])
  | succ kj2 =>
   have H:=HA.out;clear HA;simp only [dF.j0] at H
   by_cases c12:A7=true
   ·subst c12
    have H1:(some (-1))=some r:=by rw [if_pos rfl] at H;exact H
    clear H;have H:=H1;clear H1;obtain rfl:=os H;go_wp2;go_ret;exact ⟨er,tb HB⟩
   ·replace c12:=Bool.eq_false_iff.mpr c12;subst c12
    have H1:((cO.f kj2 l1).bind fun bt103=>(if bt103.2=true then (if 0≤bt103.1 then (if bt103.1 < (A0.size:Int) then (some (((bt A0 bt103.1) - 48) % 256)) else (none)) else (none)) else (some (-1))))=some r:=by rw [if_neg (show ¬ (false=true) by decide)] at H;exact H
    clear H;have H:=H1;clear H1;replace H:=ob H;obtain ⟨⟨A4,t104⟩,A130,H⟩:=H
    try dsimp only at H
    have A13:=aA.mk A130;clear A130
    by_cases c14:t104=true
    ·subst c14
     have H1:(if 0≤A4 then (if A4 < (A0.size:Int) then (some (((bt A0 A4) - 48) % 256)) else (none)) else (none))=some r:=by rw [if_pos rfl] at H;exact H
     clear H;have H:=H1;clear H1
     by_cases c15:0≤A4
     ·rw [if_pos c15] at H;have c15b0:decide (0≤A4)=true:=decide_eq_true c15;clear c15
      by_cases c16:A4 < (A0.size:Int)
      ·rw [if_pos c16] at H;have c16b0:decide (A4 < (A0.size:Int))=true:=decide_eq_true c16;clear c16;obtain rfl:=os H;go_wp2_with (first|((with_reducible refine aD (f:=106) rfl ?_);refine aT (some 19) rfl rfl Try.func106 (by kernel_rfl) rfl #[.slice A1 l1.length c1] rfl ml ?_;(with_reducible refine (cO.calls kj2 _ _ l1 A4 true _ ?side1 ?side2 A13.out).mono ?_);(case side1=>exact cw (Kd.C_below HR1.out HB.out));(case side2=>exact HC1.out);rintro e w' ⟨rfl,⟨nd,rfl⟩⟩;refine ⟨_,rfl,?_⟩;have hcz18__:=lP A3;have hfz18__:=f_ A3;have p17:0≤(A4:Int):=od;have q17:A4 < (A0.size:Int):=od;have hx17:=kE A0 A4;replace p17:=eq_true p17;replace q17:=eq_true q17));go_ret;exact ⟨er,tb HB⟩
      ·rw [if_neg c16] at H;exact absurd H (by simp)
     ·rw [if_neg c15] at H;exact absurd H (by simp)
    ·replace c14:=Bool.eq_false_iff.mpr c14;subst c14
     have H1:(some (-1))=some r:=by rw [if_neg (show ¬ (false=true) by decide)] at H;exact H
     clear H;have H:=H1;clear H1;obtain rfl:=os H;go_wp2_with (first|((with_reducible refine aD (f:=106) rfl ?_);refine aT (some 19) rfl rfl Try.func106 (by kernel_rfl) rfl #[.slice A1 l1.length c1] rfl ml ?_;(with_reducible refine (cO.calls kj2 _ _ l1 A4 false _ ?side1 ?side2 A13.out).mono ?_);(case side1=>exact cw (Kd.C_below HR1.out HB.out));(case side2=>exact HC1.out);rintro e w' ⟨rfl,⟨nd,rfl⟩⟩;refine ⟨_,rfl,?_⟩));go_ret;exact ⟨er,tb HB⟩
def bU.f (a0:Int):Option (Bool):=(aY.f a0 1 8).bind fun A0=>(some A0)
theorem bU.calls (a0:Int) (r:Bool) (w:World) (h:bU.f a0=some r) :
  Calls Try.prog 119 #[.int .i64 a0] w fun e w'=>e = .returned (.bool r)∧bT w w':=by
 have H:((aY.f a0 1 8).bind fun A0=>(some A0))=some r:=h;clear h;replace H:=ob H;obtain ⟨A0,A20,H⟩:=H;replace H:(some A0)=some r:=H;have A2:=aA.mk A20;clear A20;obtain rfl:=os H
 go_enter Try.func119,Try.ntmps119
 go_wp2_with (first|((with_reducible refine aD (f:=61) rfl ?_);refine aT (some 4) rfl rfl Try.func61 (by kernel_rfl) rfl #[.int .i64 a0,.int .i64 1,.int .i64 8] rfl ml ?_;(with_reducible refine (aY.calls a0 1 8 A0 _ A2.out).mono ?_);rintro e w' ⟨rfl,⟨nd,rfl⟩⟩;refine ⟨_,rfl,?_⟩));go_ret;exact ⟨e1,dn⟩
def cR.f (a0:Int) (a1:Int):Option (Bool):=(bU.f a0).bind fun A1=>(if A1=true then (if 0≤(IntKind.u64.wrap (a0)) then ((aY.f a1 0 (wrap64 ((shl .i64 1 (IntKind.u64.wrap (a0))) - 1))).bind fun A0=>(some A0)) else (none)) else (some false))
theorem cR.calls (a0:Int) (a1:Int) (r:Bool) (w:World) (h:cR.f a0 a1=some r) :
  Calls Try.prog 165 #[.int .i64 a0,.int .i64 a1] w fun e w'=>e = .returned (.bool r)∧bT w w':=by
 have H:((bU.f a0).bind fun A1=>(if A1=true then (if 0≤(IntKind.u64.wrap (a0)) then ((aY.f a1 0 (wrap64 ((shl .i64 1 (IntKind.u64.wrap (a0))) - 1))).bind fun A0=>(some A0)) else (none)) else (some false)))=some r:=h;clear h;replace H:=ob H;obtain ⟨A1,A30,H⟩:=H
 try dsimp only at H
 have A3:=aA.mk A30;clear A30
 by_cases c4:A1=true
 ·subst c4
  have H1:(if 0≤(IntKind.u64.wrap (a0)) then ((aY.f a1 0 (wrap64 ((shl .i64 1 (IntKind.u64.wrap (a0))) - 1))).bind fun A0=>(some A0)) else (none))=some r:=by rw [if_pos rfl] at H;exact H
  clear H;have H:=H1;clear H1;obtain ⟨ji5,hji5⟩:∃ j_:Int,(IntKind.u64.wrap (a0))=j_:=⟨_,rfl⟩
  replace H:(if 0≤(ji5) then ((aY.f a1 0 (wrap64 ((shl .i64 1 (ji5)) - 1))).bind fun A0=>(some A0)) else (none))=some r:=by first|(rw [hji5] at H;exact H)|(simp only [hji5] at H ⊢;exact H)
  (try rw [hji5] at A3)
  by_cases c6:0≤(ji5)
  ·rw [if_pos c6] at H;have c6b0:=eq_true c6;have c6b1:decide (0≤(ji5))=true:=decide_eq_true c6;clear c6;obtain ⟨ji7,hji7⟩:∃ j_:Int,(shl .i64 1 (ji5))=j_:=⟨_,rfl⟩
   replace H:((aY.f a1 0 (wrap64 ((ji7) - 1))).bind fun A0=>(some A0))=some r:=by first|(rw [hji7] at H;exact H)|(simp only [hji7] at H ⊢;exact H)
   (try rw [hji7] at A3)
   have hji7_:(IntKind.i64.wrap (1 * 2 ^ min (ji5).toNat 64))=ji7:=hji7;have hji7z:(ji5)≤64→(IntKind.i64.wrap (1 * 2 ^ (ji5).toNat))=ji7:=gK hji7
   have hji7u:(IntKind.i64.wrap (2 ^ min (ji5).toNat 64))=ji7:=by have h_:=hji7_;rw [Int.one_mul] at h_;exact h_
   have hji7v:(ji5)≤64→(IntKind.i64.wrap (2 ^ (ji5).toNat))=ji7:=fun hle_=>by have h_:=hji7z hle_;rw [Int.one_mul] at h_;exact h_
   have hji7y:(wrap64 (1 * 2 ^ min (ji5).toNat 64))=ji7:=(aJ _).symm.trans hji7_
   have hji7x:(ji5)≤64→(wrap64 (1 * 2 ^ (ji5).toNat))=ji7:=fun h_=>(aJ _).symm.trans (hji7z h_)
   replace H:=ob H;obtain ⟨A0,A80,H⟩:=H;replace H:(some A0)=some r:=H;have A8:=aA.mk A80;clear A80;obtain rfl:=os H
   go_enter Try.func165,Try.ntmps165
   go_wp2_with (first|((with_reducible refine aD (f:=119) rfl ?_);refine aT (some 6) rfl rfl Try.func119 (by kernel_rfl) rfl #[.int .i64 a0] rfl ml ?_;(with_reducible refine (bU.calls a0 true _ A3.out).mono ?_);rintro e w' ⟨rfl,⟨nd,rfl⟩⟩;refine ⟨_,rfl,?_⟩)|(go_at_call 61;(try simp only [aJ,aK]);(with_reducible refine (aY.calls a1 0 (wrap64 ((ji7) - 1)) A0 _ A8.out).mono ?_);rintro e w' ⟨rfl,⟨nd,rfl⟩⟩));go_ret;exact ⟨by first|rfl|(simp;done)|(simp only [← hji5,← hji7] <;> (first|rfl|simp))|(simp [*];done),by repeat (first|exact bT.refl _|apply bT.step)⟩
  ·rw [if_neg c6] at H;exact absurd H (by simp)
 ·replace c4:=Bool.eq_false_iff.mpr c4;subst c4
  have H1:(some false)=some r:=by rw [if_neg (show ¬ (false=true) by decide)] at H;exact H
  clear H;have H:=H1;clear H1;obtain rfl:=os H
  go_enter Try.func165,Try.ntmps165
  go_wp2_with (first|((with_reducible refine aD (f:=119) rfl ?_);refine aT (some 6) rfl rfl Try.func119 (by kernel_rfl) rfl #[.int .i64 a0] rfl ml ?_;(with_reducible refine (bU.calls a0 false _ A3.out).mono ?_);rintro e w' ⟨rfl,⟨nd,rfl⟩⟩;refine ⟨_,rfl,?_⟩));go_ret;exact ⟨e1,dn⟩
def gP.f (a0:Int) (a1:Int):Option (Int):=(cR.f a0 a1).bind fun A0=>(if A0=true then (if 0≤(IntKind.u64.wrap (a0)) then (some (wrap64 ((wrap64 ((shl .i64 1 (IntKind.u64.wrap (a0))) - 1)) - a1))) else (none)) else (some 0))
theorem gP.calls (a0:Int) (a1:Int) (r:Int) (w:World) (h:gP.f a0 a1=some r) :
  Calls Try.prog 140 #[.int .i64 a0,.int .i64 a1] w fun e w'=>e = .returned (.int .i64 r)∧bT w w':=by
 have H:((cR.f a0 a1).bind fun A0=>(if A0=true then (if 0≤(IntKind.u64.wrap (a0)) then (some (wrap64 ((wrap64 ((shl .i64 1 (IntKind.u64.wrap (a0))) - 1)) - a1))) else (none)) else (some 0)))=some r:=h;clear h;replace H:=ob H;obtain ⟨A0,A30,H⟩:=H
 try dsimp only at H
 have A3:=aA.mk A30;clear A30
 by_cases c4:A0=true
 ·subst c4
  have H1:(if 0≤(IntKind.u64.wrap (a0)) then (some (wrap64 ((wrap64 ((shl .i64 1 (IntKind.u64.wrap (a0))) - 1)) - a1))) else (none))=some r:=by rw [if_pos rfl] at H;exact H
  clear H;have H:=H1;clear H1;obtain ⟨ji5,hji5⟩:∃ j_:Int,(IntKind.u64.wrap (a0))=j_:=⟨_,rfl⟩
  replace H:(if 0≤(ji5) then (some (wrap64 ((wrap64 ((shl .i64 1 (ji5)) - 1)) - a1))) else (none))=some r:=by first|(rw [hji5] at H;exact H)|(simp only [hji5] at H ⊢;exact H)
  (try rw [hji5] at A3)
  by_cases c6:0≤(ji5)
  ·rw [if_pos c6] at H;have c6b0:=eq_true c6;have c6b1:decide (0≤(ji5))=true:=decide_eq_true c6;clear c6;obtain ⟨ji7,hji7⟩:∃ j_:Int,(shl .i64 1 (ji5))=j_:=⟨_,rfl⟩
   replace H:(some (wrap64 ((wrap64 ((ji7) - 1)) - a1)))=some r:=by first|(rw [hji7] at H;exact H)|(simp only [hji7] at H ⊢;exact H)
   (try rw [hji7] at A3)
   have hji7_:(IntKind.i64.wrap (1 * 2 ^ min (ji5).toNat 64))=ji7:=hji7;have hji7z:(ji5)≤64→(IntKind.i64.wrap (1 * 2 ^ (ji5).toNat))=ji7:=gK hji7
   have hji7u:(IntKind.i64.wrap (2 ^ min (ji5).toNat 64))=ji7:=by have h_:=hji7_;rw [Int.one_mul] at h_;exact h_
   have hji7v:(ji5)≤64→(IntKind.i64.wrap (2 ^ (ji5).toNat))=ji7:=fun hle_=>by have h_:=hji7z hle_;rw [Int.one_mul] at h_;exact h_
   have hji7y:(wrap64 (1 * 2 ^ min (ji5).toNat 64))=ji7:=(aJ _).symm.trans hji7_
   have hji7x:(ji5)≤64→(wrap64 (1 * 2 ^ (ji5).toNat))=ji7:=fun h_=>(aJ _).symm.trans (hji7z h_)
   obtain rfl:=os H
   go_enter Try.func140,Try.ntmps140
   go_wp2_with (first|((with_reducible refine aD (f:=165) rfl ?_);refine aT (some 7) rfl rfl Try.func165 (by kernel_rfl) rfl #[.int .i64 a0,.int .i64 a1] rfl ml ?_;(with_reducible refine (cR.calls a0 a1 true _ A3.out).mono ?_);rintro e w' ⟨rfl,⟨nd,rfl⟩⟩;refine ⟨_,rfl,?_⟩));go_ret;exact ⟨by first|rfl|(simp;done)|(simp only [← hji5,← hji7] <;> (first|rfl|simp))|(simp [*];done),by repeat (first|exact bT.refl _|apply bT.step)⟩
  ·rw [if_neg c6] at H;exact absurd H (by simp)
 ·replace c4:=Bool.eq_false_iff.mpr c4;subst c4
  have H1:(some 0)=some r:=by rw [if_neg (show ¬ (false=true) by decide)] at H;exact H
  clear H;have H:=H1;clear H1;obtain rfl:=os H
  go_enter Try.func140,Try.ntmps140
  go_wp2_with (first|((with_reducible refine aD (f:=165) rfl ?_);refine aT (some 7) rfl rfl Try.func165 (by kernel_rfl) rfl #[.int .i64 a0,.int .i64 a1] rfl ml ?_;(with_reducible refine (cR.calls a0 a1 false _ A3.out).mono ?_);rintro e w' ⟨rfl,⟨nd,rfl⟩⟩;refine ⟨_,rfl,?_⟩));go_ret;exact ⟨e1,dn⟩
def dQ.f (a0:Bool):Option (Int):=if a0=true then (some 1) else (some 0)
theorem dQ.calls (a0:Bool) (r:Int) (w:World) (h:dQ.f a0=some r) :
  Calls Try.prog 111 #[.bool a0] w fun e w'=>e = .returned (.int .i64 r)∧bT w w':=by
 have H:(if a0=true then (some 1) else (some 0))=some r:=h;clear h
 by_cases c2:a0=true
 ·subst c2
  have H1:(some 1)=some r:=by rw [if_pos rfl] at H;exact H
  clear H;have H:=H1;clear H1;obtain rfl:=os H
  go_enter Try.func111,Try.ntmps111
  go_wp2;go_ret;exact ⟨e1,dn⟩
 ·replace c2:=Bool.eq_false_iff.mpr c2;subst c2
  have H1:(some 0)=some r:=by rw [if_neg (show ¬ (false=true) by decide)] at H;exact H
  clear H;have H:=H1;clear H1;obtain rfl:=os H
  go_enter Try.func111,Try.ntmps111
  go_wp2;go_ret;exact ⟨e1,dn⟩
def cT.f (a0:Int) (a1:Int) (a2:Int):Option (Bool):=(cR.f a0 a1).bind fun A1=>(if A1=true then ((cR.f a0 a2).bind fun A0=>(some A0)) else (some false))
theorem cT.calls (a0:Int) (a1:Int) (a2:Int) (r:Bool) (w:World) (h:cT.f a0 a1 a2=some r) :
  Calls Try.prog 173 #[.int .i64 a0,.int .i64 a1,.int .i64 a2] w fun e w'=>e = .returned (.bool r)∧bT w w':=by
 have H:((cR.f a0 a1).bind fun A1=>(if A1=true then ((cR.f a0 a2).bind fun A0=>(some A0)) else (some false)))=some r:=h;clear h;replace H:=ob H;obtain ⟨A1,A40,H⟩:=H;replace H:(if A1=true then ((cR.f a0 a2).bind fun A0=>(some A0)) else (some false))=some r:=H;have A4:=aA.mk A40;clear A40
 by_cases c5:A1=true
 ·subst c5
  have H1:((cR.f a0 a2).bind fun A0=>(some A0))=some r:=by rw [if_pos rfl] at H;exact H
  clear H;have H:=H1;clear H1;replace H:=ob H;obtain ⟨A0,A60,H⟩:=H;replace H:(some A0)=some r:=H;have A6:=aA.mk A60;clear A60;obtain rfl:=os H
  go_enter Try.func173,Try.ntmps173
  go_wp2_with (first|((with_reducible refine aD (f:=165) rfl ?_);refine aT (some 9) rfl rfl Try.func165 (by kernel_rfl) rfl #[.int .i64 a0,.int .i64 a1] rfl ml ?_;(with_reducible refine (cR.calls a0 a1 true _ A4.out).mono ?_);rintro e w' ⟨rfl,⟨nd,rfl⟩⟩;refine ⟨_,rfl,?_⟩)|(go_at_call 165;(try simp only [aJ,aK]);(with_reducible refine (cR.calls a0 a2 A0 _ A6.out).mono ?_);rintro e w' ⟨rfl,⟨nd,rfl⟩⟩));go_ret;exact ⟨e1,dn⟩
 ·replace c5:=Bool.eq_false_iff.mpr c5;subst c5
  have H1:(some false)=some r:=by rw [if_neg (show ¬ (false=true) by decide)] at H;exact H
  clear H;have H:=H1;clear H1;obtain rfl:=os H
  go_enter Try.func173,Try.ntmps173
  go_wp2_with (first|((with_reducible refine aD (f:=165) rfl ?_);refine aT (some 9) rfl rfl Try.func165 (by kernel_rfl) rfl #[.int .i64 a0,.int .i64 a1] rfl ml ?_;(with_reducible refine (cR.calls a0 a1 false _ A4.out).mono ?_);rintro e w' ⟨rfl,⟨nd,rfl⟩⟩;refine ⟨_,rfl,?_⟩));go_ret;exact ⟨e1,dn⟩
def gH.f (a0:Int) (a1:Int) (a2:Int):Option (Int):=(cT.f a0 a1 a2).bind fun A2=>(if A2=true then ((dQ.f (decide (a1 < a2))).bind fun A0=>(some A0)) else ((dQ.f false).bind fun A1=>(some A1)))
theorem gH.calls (a0:Int) (a1:Int) (a2:Int) (r:Int) (w:World) (h:gH.f a0 a1 a2=some r) :
  Calls Try.prog 142 #[.int .i64 a0,.int .i64 a1,.int .i64 a2] w fun e w'=>e = .returned (.int .i64 r)∧bT w w':=by
 have H:((cT.f a0 a1 a2).bind fun A2=>(if A2=true then ((dQ.f (decide (a1 < a2))).bind fun A0=>(some A0)) else ((dQ.f false).bind fun A1=>(some A1))))=some r:=h;clear h;replace H:=ob H;obtain ⟨A2,A40,H⟩:=H
 try dsimp only at H
 have A4:=aA.mk A40;clear A40
 by_cases c5:A2=true
 ·subst c5
  have H1:((dQ.f (decide (a1 < a2))).bind fun A0=>(some A0))=some r:=by rw [if_pos rfl] at H;exact H
  clear H;have H:=H1;clear H1;replace H:=ob H;obtain ⟨A0,A60,H⟩:=H;replace H:(some A0)=some r:=H;have A6:=aA.mk A60;clear A60;obtain rfl:=os H
  go_enter Try.func142,Try.ntmps142
  go_wp2_with (first|((with_reducible refine aD (f:=173) rfl ?_);refine aT (some 10) rfl rfl Try.func173 (by kernel_rfl) rfl #[.int .i64 a0,.int .i64 a1,.int .i64 a2] rfl ml ?_;(with_reducible refine (cT.calls a0 a1 a2 true _ A4.out).mono ?_);rintro e w' ⟨rfl,⟨nd,rfl⟩⟩;refine ⟨_,rfl,?_⟩)|((with_reducible refine aD (f:=111) rfl ?_);refine aT (some 16) rfl rfl Try.func111 (by kernel_rfl) rfl #[.bool (decide (a1 < a2))] rfl ml ?_;(with_reducible refine (dQ.calls (decide (a1 < a2)) A0 _ A6.out).mono ?_);rintro e w' ⟨rfl,⟨nd,rfl⟩⟩;refine ⟨_,rfl,?_⟩));go_ret;exact ⟨e1,dn⟩
 ·replace c5:=Bool.eq_false_iff.mpr c5;subst c5
  have H1:((dQ.f false).bind fun A1=>(some A1))=some r:=by rw [if_neg (show ¬ (false=true) by decide)] at H;exact H
  clear H;have H:=H1;clear H1;replace H:=ob H;obtain ⟨A1,A70,H⟩:=H;replace H:(some A1)=some r:=H;have A7:=aA.mk A70;clear A70;obtain rfl:=os H
  go_enter Try.func142,Try.ntmps142
  go_wp2_with (first|((with_reducible refine aD (f:=173) rfl ?_);refine aT (some 10) rfl rfl Try.func173 (by kernel_rfl) rfl #[.int .i64 a0,.int .i64 a1,.int .i64 a2] rfl ml ?_;(with_reducible refine (cT.calls a0 a1 a2 false _ A4.out).mono ?_);rintro e w' ⟨rfl,⟨nd,rfl⟩⟩;refine ⟨_,rfl,?_⟩)|((with_reducible refine aD (f:=111) rfl ?_);refine aT (some 16) rfl rfl Try.func111 (by kernel_rfl) rfl #[.bool false] rfl ml ?_;(with_reducible refine (dQ.calls false A1 _ A7.out).mono ?_);rintro e w' ⟨rfl,⟨nd,rfl⟩⟩;refine ⟨_,rfl,?_⟩));go_ret;exact ⟨e1,dn⟩
def eG.f (a0:Int) (a1:Int):Option (Int):=(cR.f a0 a1).bind fun A0=>(if A0=true then (if 0≤(IntKind.u64.wrap (wrap64 (a0 - 1))) then (if a1 ≥ (shl .i64 1 (IntKind.u64.wrap (wrap64 (a0 - 1)))) then (if 0≤(IntKind.u64.wrap (a0)) then (some (wrap64 (a1 - (shl .i64 1 (IntKind.u64.wrap (a0)))))) else (none)) else (some a1)) else (none)) else (some 0))
theorem eG.calls (a0:Int) (a1:Int) (r:Int) (w:World) (h:eG.f a0 a1=some r) :
  Calls Try.prog 174 #[.int .i64 a0,.int .i64 a1] w fun e w'=>e = .returned (.int .i64 r)∧bT w w':=by
 have H:((cR.f a0 a1).bind fun A0=>(if A0=true then (if 0≤(IntKind.u64.wrap (wrap64 (a0 - 1))) then (if a1 ≥ (shl .i64 1 (IntKind.u64.wrap (wrap64 (a0 - 1)))) then (if 0≤(IntKind.u64.wrap (a0)) then (some (wrap64 (a1 - (shl .i64 1 (IntKind.u64.wrap (a0)))))) else (none)) else (some a1)) else (none)) else (some 0)))=some r:=h;clear h;replace H:=ob H;obtain ⟨A0,A30,H⟩:=H
 try dsimp only at H
 have A3:=aA.mk A30;clear A30
 by_cases c4:A0=true
 ·subst c4
  have H1:(if 0≤(IntKind.u64.wrap (wrap64 (a0 - 1))) then (if a1 ≥ (shl .i64 1 (IntKind.u64.wrap (wrap64 (a0 - 1)))) then (if 0≤(IntKind.u64.wrap (a0)) then (some (wrap64 (a1 - (shl .i64 1 (IntKind.u64.wrap (a0)))))) else (none)) else (some a1)) else (none))=some r:=by rw [if_pos rfl] at H;exact H
  clear H;have H:=H1;clear H1;obtain ⟨ji5,hji5⟩:∃ j_:Int,(IntKind.u64.wrap (wrap64 (a0 - 1)))=j_:=⟨_,rfl⟩
  replace H:(if 0≤(ji5) then (if a1 ≥ (shl .i64 1 (ji5)) then (if 0≤(IntKind.u64.wrap (a0)) then (some (wrap64 (a1 - (shl .i64 1 (IntKind.u64.wrap (a0)))))) else (none)) else (some a1)) else (none))=some r:=by first|(rw [hji5] at H;exact H)|(simp only [hji5] at H ⊢;exact H)
  (try rw [hji5] at A3)
  by_cases c6:0≤(ji5)
  ·rw [if_pos c6] at H;have c6b0:=eq_true c6;have c6b1:decide (0≤(ji5))=true:=decide_eq_true c6;clear c6;obtain ⟨ji7,hji7⟩:∃ j_:Int,(shl .i64 1 (ji5))=j_:=⟨_,rfl⟩
   replace H:(if a1 ≥ (ji7) then (if 0≤(IntKind.u64.wrap (a0)) then (some (wrap64 (a1 - (shl .i64 1 (IntKind.u64.wrap (a0)))))) else (none)) else (some a1))=some r:=by first|(rw [hji7] at H;exact H)|(simp only [hji7] at H ⊢;exact H)
   (try rw [hji7] at A3)
   have hji7_:(IntKind.i64.wrap (1 * 2 ^ min (ji5).toNat 64))=ji7:=hji7;have hji7z:(ji5)≤64→(IntKind.i64.wrap (1 * 2 ^ (ji5).toNat))=ji7:=gK hji7
   have hji7u:(IntKind.i64.wrap (2 ^ min (ji5).toNat 64))=ji7:=by have h_:=hji7_;rw [Int.one_mul] at h_;exact h_
   have hji7v:(ji5)≤64→(IntKind.i64.wrap (2 ^ (ji5).toNat))=ji7:=fun hle_=>by have h_:=hji7z hle_;rw [Int.one_mul] at h_;exact h_
   have hji7y:(wrap64 (1 * 2 ^ min (ji5).toNat 64))=ji7:=(aJ _).symm.trans hji7_
   have hji7x:(ji5)≤64→(wrap64 (1 * 2 ^ (ji5).toNat))=ji7:=fun h_=>(aJ _).symm.trans (hji7z h_)
   by_cases c8:a1 ≥ (ji7)
   ·rw [if_pos c8] at H;have c8b0:decide ((ji7)≤a1)=true:=decide_eq_true c8;clear c8;obtain ⟨ji9,hji9⟩:∃ j_:Int,(IntKind.u64.wrap (a0))=j_:=⟨_,rfl⟩
    replace H:(if 0≤(ji9) then (some (wrap64 (a1 - (shl .i64 1 (ji9))))) else (none))=some r:=by first|(rw [hji9] at H;exact H)|(simp only [hji9] at H ⊢;exact H)
    (try rw [hji9] at A3)
    by_cases c10:0≤(ji9)
    ·rw [if_pos c10] at H;have c10b0:=eq_true c10;have c10b1:decide (0≤(ji9))=true:=decide_eq_true c10;clear c10;obtain ⟨ji11,hji11⟩:∃ j_:Int,(shl .i64 1 (ji9))=j_:=⟨_,rfl⟩
     replace H:(some (wrap64 (a1 - (ji11))))=some r:=by first|(rw [hji11] at H;exact H)|(simp only [hji11] at H ⊢;exact H)
     (try rw [hji11] at A3)
     have hji11_:(IntKind.i64.wrap (1 * 2 ^ min (ji9).toNat 64))=ji11:=hji11;have hji11z:(ji9)≤64→(IntKind.i64.wrap (1 * 2 ^ (ji9).toNat))=ji11:=gK hji11
     have hji11u:(IntKind.i64.wrap (2 ^ min (ji9).toNat 64))=ji11:=by have h_:=hji11_;rw [Int.one_mul] at h_;exact h_
     have hji11v:(ji9)≤64→(IntKind.i64.wrap (2 ^ (ji9).toNat))=ji11:=fun hle_=>by have h_:=hji11z hle_;rw [Int.one_mul] at h_;exact h_
     have hji11y:(wrap64 (1 * 2 ^ min (ji9).toNat 64))=ji11:=(aJ _).symm.trans hji11_
     have hji11x:(ji9)≤64→(wrap64 (1 * 2 ^ (ji9).toNat))=ji11:=fun h_=>(aJ _).symm.trans (hji11z h_)
     obtain rfl:=os H
     go_enter Try.func174,Try.ntmps174
     go_wp2_with (first|((with_reducible refine aD (f:=165) rfl ?_);refine aT (some 8) rfl rfl Try.func165 (by kernel_rfl) rfl #[.int .i64 a0,.int .i64 a1] rfl ml ?_;(with_reducible refine (cR.calls a0 a1 true _ A3.out).mono ?_);rintro e w' ⟨rfl,⟨nd,rfl⟩⟩;refine ⟨_,rfl,?_⟩));go_ret;exact ⟨by first|rfl|(simp;done)|(simp only [← hji5,← hji7,← hji9,← hji11] <;> (first|rfl|simp))|(simp [*];done),by repeat (first|exact bT.refl _|apply bT.step)⟩
    ·rw [if_neg c10] at H;exact absurd H (by simp)
   ·rw [if_neg c8] at H;have c8b0:decide ((ji7)≤a1)=false:=decide_eq_false c8;clear c8;obtain rfl:=os H
    go_enter Try.func174,Try.ntmps174
    go_wp2_with (first|((with_reducible refine aD (f:=165) rfl ?_);refine aT (some 8) rfl rfl Try.func165 (by kernel_rfl) rfl #[.int .i64 a0,.int .i64 a1] rfl ml ?_;(with_reducible refine (cR.calls a0 a1 true _ A3.out).mono ?_);rintro e w' ⟨rfl,⟨nd,rfl⟩⟩;refine ⟨_,rfl,?_⟩));go_ret;exact ⟨by first|rfl|(simp;done)|(simp only [← hji5,← hji7] <;> (first|rfl|simp))|(simp [*];done),by repeat (first|exact bT.refl _|apply bT.step)⟩
  ·rw [if_neg c6] at H;exact absurd H (by simp)
 ·replace c4:=Bool.eq_false_iff.mpr c4;subst c4
  have H1:(some 0)=some r:=by rw [if_neg (show ¬ (false=true) by decide)] at H;exact H
  clear H;have H:=H1;clear H1;obtain rfl:=os H
  go_enter Try.func174,Try.ntmps174
  go_wp2_with (first|((with_reducible refine aD (f:=165) rfl ?_);refine aT (some 8) rfl rfl Try.func165 (by kernel_rfl) rfl #[.int .i64 a0,.int .i64 a1] rfl ml ?_;(with_reducible refine (cR.calls a0 a1 false _ A3.out).mono ?_);rintro e w' ⟨rfl,⟨nd,rfl⟩⟩;refine ⟨_,rfl,?_⟩));go_ret;exact ⟨e1,dn⟩
def eK.f (a0:Int) (a1:Int) (a2:Int):Option (Int):=(cT.f a0 a1 a2).bind fun A5=>(if A5=true then ((eG.f a0 a1).bind fun A2=>((eG.f a0 a2).bind fun A0=>((dQ.f (decide (A2 < A0))).bind fun A1=>(some A1)))) else ((dQ.f false).bind fun A3=>(some A3)))
theorem eK.calls (a0:Int) (a1:Int) (a2:Int) (r:Int) (w:World) (h:eK.f a0 a1 a2=some r) :
  Calls Try.prog 143 #[.int .i64 a0,.int .i64 a1,.int .i64 a2] w fun e w'=>e = .returned (.int .i64 r)∧bT w w':=by
 have H:((cT.f a0 a1 a2).bind fun A5=>(if A5=true then ((eG.f a0 a1).bind fun A2=>((eG.f a0 a2).bind fun A0=>((dQ.f (decide (A2 < A0))).bind fun A1=>(some A1)))) else ((dQ.f false).bind fun A3=>(some A3))))=some r:=h;clear h;replace H:=ob H;obtain ⟨A5,A40,H⟩:=H
 try dsimp only at H
 have A4:=aA.mk A40;clear A40
 by_cases c5:A5=true
 ·subst c5
  have H1:((eG.f a0 a1).bind fun A2=>((eG.f a0 a2).bind fun A0=>((dQ.f (decide (A2 < A0))).bind fun A1=>(some A1))))=some r:=by rw [if_pos rfl] at H;exact H
  clear H;have H:=H1;clear H1;replace H:=ob H;obtain ⟨A2,A60,H⟩:=H;replace H:((eG.f a0 a2).bind fun A0=>((dQ.f (decide (A2 < A0))).bind fun A1=>(some A1)))=some r:=H;have A6:=aA.mk A60;clear A60;replace H:=ob H;obtain ⟨A0,A70,H⟩:=H;replace H:((dQ.f (decide (A2 < A0))).bind fun A1=>(some A1))=some r:=H;have A7:=aA.mk A70;clear A70;replace H:=ob H;obtain ⟨A1,A80,H⟩:=H;replace H:(some A1)=some r:=H;have A8:=aA.mk A80;clear A80;obtain rfl:=os H
  go_enter Try.func143,Try.ntmps143
  go_wp2_with (first|((with_reducible refine aD (f:=173) rfl ?_);refine aT (some 10) rfl rfl Try.func173 (by kernel_rfl) rfl #[.int .i64 a0,.int .i64 a1,.int .i64 a2] rfl ml ?_;(with_reducible refine (cT.calls a0 a1 a2 true _ A4.out).mono ?_);rintro e w' ⟨rfl,⟨nd,rfl⟩⟩;refine ⟨_,rfl,?_⟩)|(go_at_call 174;(try simp only [aJ,aK]);(with_reducible refine (eG.calls a0 a1 A2 _ A6.out).mono ?_);rintro e w' ⟨rfl,⟨nd,rfl⟩⟩)|(go_at_call 174;(try simp only [aJ,aK]);(with_reducible refine (eG.calls a0 a2 A0 _ A7.out).mono ?_);rintro e w' ⟨rfl,⟨nd,rfl⟩⟩)|((with_reducible refine aD (f:=111) rfl ?_);refine aT (some 20) rfl rfl Try.func111 (by kernel_rfl) rfl #[.bool (decide (A2 < A0))] rfl ml ?_;(with_reducible refine (dQ.calls (decide (A2 < A0)) A1 _ A8.out).mono ?_);rintro e w' ⟨rfl,⟨nd,rfl⟩⟩;refine ⟨_,rfl,?_⟩));go_ret;exact ⟨e1,dn⟩
 ·replace c5:=Bool.eq_false_iff.mpr c5;subst c5
  have H1:((dQ.f false).bind fun A3=>(some A3))=some r:=by rw [if_neg (show ¬ (false=true) by decide)] at H;exact H
  clear H;have H:=H1;clear H1;replace H:=ob H;obtain ⟨A3,A90,H⟩:=H;replace H:(some A3)=some r:=H;have A9:=aA.mk A90;clear A90;obtain rfl:=os H
  go_enter Try.func143,Try.ntmps143
  go_wp2_with (first|((with_reducible refine aD (f:=173) rfl ?_);refine aT (some 10) rfl rfl Try.func173 (by kernel_rfl) rfl #[.int .i64 a0,.int .i64 a1,.int .i64 a2] rfl ml ?_;(with_reducible refine (cT.calls a0 a1 a2 false _ A4.out).mono ?_);rintro e w' ⟨rfl,⟨nd,rfl⟩⟩;refine ⟨_,rfl,?_⟩)|((with_reducible refine aD (f:=111) rfl ?_);refine aT (some 20) rfl rfl Try.func111 (by kernel_rfl) rfl #[.bool false] rfl ml ?_;(with_reducible refine (dQ.calls false A3 _ A9.out).mono ?_);rintro e w' ⟨rfl,⟨nd,rfl⟩⟩;refine ⟨_,rfl,?_⟩));go_ret;exact ⟨e1,dn⟩
def dE.f (a0:Int) (a1:Int):Option (Int):=if 0≤(IntKind.u64.wrap (a0)) then (some (Go.bits .and .i64 a1 (wrap64 ((shl .i64 1 (IntKind.u64.wrap (a0))) - 1)))) else (none)
theorem dE.calls (a0:Int) (a1:Int) (r:Int) (w:World) (h:dE.f a0 a1=some r) :
  Calls Try.prog 64 #[.int .i64 a0,.int .i64 a1] w fun e w'=>e = .returned (.int .i64 r)∧bT w w':=by
 have H:(if 0≤(IntKind.u64.wrap (a0)) then (some (Go.bits .and .i64 a1 (wrap64 ((shl .i64 1 (IntKind.u64.wrap (a0))) - 1)))) else (none))=some r:=h;clear h;obtain ⟨ji3,hji3⟩:∃ j_:Int,(IntKind.u64.wrap (a0))=j_:=⟨_,rfl⟩
 replace H:(if 0≤(ji3) then (some (Go.bits .and .i64 a1 (wrap64 ((shl .i64 1 (ji3)) - 1)))) else (none))=some r:=by first|(rw [hji3] at H;exact H)|(simp only [hji3] at H ⊢;exact H)
 by_cases c4:0≤(ji3)
 ·rw [if_pos c4] at H;have c4b0:=eq_true c4;have c4b1:decide (0≤(ji3))=true:=decide_eq_true c4;clear c4;obtain ⟨ji5,hji5⟩:∃ j_:Int,(shl .i64 1 (ji3))=j_:=⟨_,rfl⟩
  replace H:(some (Go.bits .and .i64 a1 (wrap64 ((ji5) - 1))))=some r:=by first|(rw [hji5] at H;exact H)|(simp only [hji5] at H ⊢;exact H)
  have hji5_:(IntKind.i64.wrap (1 * 2 ^ min (ji3).toNat 64))=ji5:=hji5;have hji5z:(ji3)≤64→(IntKind.i64.wrap (1 * 2 ^ (ji3).toNat))=ji5:=gK hji5
  have hji5u:(IntKind.i64.wrap (2 ^ min (ji3).toNat 64))=ji5:=by have h_:=hji5_;rw [Int.one_mul] at h_;exact h_
  have hji5v:(ji3)≤64→(IntKind.i64.wrap (2 ^ (ji3).toNat))=ji5:=fun hle_=>by have h_:=hji5z hle_;rw [Int.one_mul] at h_;exact h_
  have hji5y:(wrap64 (1 * 2 ^ min (ji3).toNat 64))=ji5:=(aJ _).symm.trans hji5_
  have hji5x:(ji3)≤64→(wrap64 (1 * 2 ^ (ji3).toNat))=ji5:=fun h_=>(aJ _).symm.trans (hji5z h_)
  obtain rfl:=os H
  go_enter Try.func64,Try.ntmps64
  go_wp2;go_ret;exact ⟨by first|rfl|(simp;done)|(simp only [← hji3,← hji5] <;> (first|rfl|simp))|(simp [*];done),by repeat (first|exact bT.refl _|apply bT.step)⟩
 ·rw [if_neg c4] at H;exact absurd H (by simp)
def gE.f (a0:Int) (a1:Int) (a2:Int) (a3:Int):Option (Int):=(cR.f a0 a1).bind fun A3=>(if A3=true then ((aY.f a3 1 a0).bind fun A2=>(if A2=true then ((aY.f a2 0 (wrap64 (a0 - a3))).bind fun A1=>(if A1=true then (if 0≤(IntKind.u64.wrap (a2)) then ((dE.f a3 (shr .i64 a1 (IntKind.u64.wrap (a2)))).bind fun A0=>(some A0)) else (none)) else (some 0))) else (some 0))) else (some 0))
theorem gE.calls (a0:Int) (a1:Int) (a2:Int) (a3:Int) (r:Int) (w:World) (h:gE.f a0 a1 a2 a3=some r) :
  Calls Try.prog 144 #[.int .i64 a0,.int .i64 a1,.int .i64 a2,.int .i64 a3] w fun e w'=>e = .returned (.int .i64 r)∧bT w w':=by
 have H:((cR.f a0 a1).bind fun A3=>(if A3=true then ((aY.f a3 1 a0).bind fun A2=>(if A2=true then ((aY.f a2 0 (wrap64 (a0 - a3))).bind fun A1=>(if A1=true then (if 0≤(IntKind.u64.wrap (a2)) then ((dE.f a3 (shr .i64 a1 (IntKind.u64.wrap (a2)))).bind fun A0=>(some A0)) else (none)) else (some 0))) else (some 0))) else (some 0)))=some r:=h;clear h;replace H:=ob H;obtain ⟨A3,A50,H⟩:=H
 try dsimp only at H
 have A5:=aA.mk A50;clear A50
 by_cases c6:A3=true
 ·subst c6
  have H1:((aY.f a3 1 a0).bind fun A2=>(if A2=true then ((aY.f a2 0 (wrap64 (a0 - a3))).bind fun A1=>(if A1=true then (if 0≤(IntKind.u64.wrap (a2)) then ((dE.f a3 (shr .i64 a1 (IntKind.u64.wrap (a2)))).bind fun A0=>(some A0)) else (none)) else (some 0))) else (some 0)))=some r:=by rw [if_pos rfl] at H;exact H
  clear H;have H:=H1;clear H1;replace H:=ob H;obtain ⟨A2,A70,H⟩:=H
  try dsimp only at H
  have A7:=aA.mk A70;clear A70
  by_cases c8:A2=true
  ·subst c8
   have H1:((aY.f a2 0 (wrap64 (a0 - a3))).bind fun A1=>(if A1=true then (if 0≤(IntKind.u64.wrap (a2)) then ((dE.f a3 (shr .i64 a1 (IntKind.u64.wrap (a2)))).bind fun A0=>(some A0)) else (none)) else (some 0)))=some r:=by rw [if_pos rfl] at H;exact H
   clear H;have H:=H1;clear H1;replace H:=ob H;obtain ⟨A1,A90,H⟩:=H
   try dsimp only at H
   have A9:=aA.mk A90;clear A90
   by_cases c10:A1=true
   ·subst c10
    have H1:(if 0≤(IntKind.u64.wrap (a2)) then ((dE.f a3 (shr .i64 a1 (IntKind.u64.wrap (a2)))).bind fun A0=>(some A0)) else (none))=some r:=by rw [if_pos rfl] at H;exact H
    clear H;have H:=H1;clear H1;obtain ⟨ji11,hji11⟩:∃ j_:Int,(IntKind.u64.wrap (a2))=j_:=⟨_,rfl⟩
    replace H:(if 0≤(ji11) then ((dE.f a3 (shr .i64 a1 (ji11))).bind fun A0=>(some A0)) else (none))=some r:=by first|(rw [hji11] at H;exact H)|(simp only [hji11] at H ⊢;exact H)
    (try rw [hji11] at A5)
    (try rw [hji11] at A7)
    (try rw [hji11] at A9)
    by_cases c12:0≤(ji11)
    ·rw [if_pos c12] at H;have c12b0:=eq_true c12;have c12b1:decide (0≤(ji11))=true:=decide_eq_true c12;clear c12;obtain ⟨ji13,hji13⟩:∃ j_:Int,(shr .i64 a1 (ji11))=j_:=⟨_,rfl⟩
     replace H:((dE.f a3 (ji13)).bind fun A0=>(some A0))=some r:=by first|(rw [hji13] at H;exact H)|(simp only [hji13] at H ⊢;exact H)
     (try rw [hji13] at A5)
     (try rw [hji13] at A7)
     (try rw [hji13] at A9)
     have hji13_:(a1 / 2 ^ min (ji11).toNat 64)=ji13:=hji13;have hji13z:(ji11)≤64→(a1 / 2 ^ (ji11).toNat)=ji13:=oQ hji13;replace H:=ob H;obtain ⟨A0,A140,H⟩:=H;replace H:(some A0)=some r:=H;have A14:=aA.mk A140;clear A140;obtain rfl:=os H
     go_enter Try.func144,Try.ntmps144
     go_wp2_with (first|((with_reducible refine aD (f:=165) rfl ?_);refine aT (some 11) rfl rfl Try.func165 (by kernel_rfl) rfl #[.int .i64 a0,.int .i64 a1] rfl ml ?_;(with_reducible refine (cR.calls a0 a1 true _ A5.out).mono ?_);rintro e w' ⟨rfl,⟨nd,rfl⟩⟩;refine ⟨_,rfl,?_⟩)|(go_at_call 61;(try simp only [aJ,aK]);(with_reducible refine (aY.calls a3 1 a0 true _ A7.out).mono ?_);rintro e w' ⟨rfl,⟨nd,rfl⟩⟩)|(go_at_call 61;(try simp only [aJ,aK]);(with_reducible refine (aY.calls a2 0 (wrap64 (a0 - a3)) true _ A9.out).mono ?_);rintro e w' ⟨rfl,⟨nd,rfl⟩⟩)|((with_reducible refine aD (f:=64) rfl ?_);refine aT (some 32) rfl rfl Try.func64 (by kernel_rfl) rfl #[.int .i64 a3,.int .i64 ji13] rfl (by (try simp only [List.map_toArray,List.map_cons,List.map_nil]);first|done|(simp only [hji13];rfl)|rfl|(simp only [List.length_drop,List.length_take];rfl)) ?_;(with_reducible refine (dE.calls a3 ji13 A0 _ A14.out).mono ?_);rintro e w' ⟨rfl,⟨nd,rfl⟩⟩;refine ⟨_,rfl,?_⟩));go_ret;exact ⟨by first|rfl|(simp;done)|(simp only [← hji11,← hji13] <;> (first|rfl|simp))|(simp [*];done),by repeat (first|exact bT.refl _|apply bT.step)⟩
    ·rw [if_neg c12] at H;exact absurd H (by simp)
   ·replace c10:=Bool.eq_false_iff.mpr c10;subst c10
    have H1:(some 0)=some r:=by rw [if_neg (show ¬ (false=true) by decide)] at H;exact H
    clear H;have H:=H1;clear H1;obtain rfl:=os H
    go_enter Try.func144,Try.ntmps144
    go_wp2_with (first|((with_reducible refine aD (f:=165) rfl ?_);refine aT (some 11) rfl rfl Try.func165 (by kernel_rfl) rfl #[.int .i64 a0,.int .i64 a1] rfl ml ?_;(with_reducible refine (cR.calls a0 a1 true _ A5.out).mono ?_);rintro e w' ⟨rfl,⟨nd,rfl⟩⟩;refine ⟨_,rfl,?_⟩)|(go_at_call 61;(try simp only [aJ,aK]);(with_reducible refine (aY.calls a3 1 a0 true _ A7.out).mono ?_);rintro e w' ⟨rfl,⟨nd,rfl⟩⟩)|(go_at_call 61;(try simp only [aJ,aK]);(with_reducible refine (aY.calls a2 0 (wrap64 (a0 - a3)) false _ A9.out).mono ?_);rintro e w' ⟨rfl,⟨nd,rfl⟩⟩));go_ret;exact ⟨e1,dn⟩
  ·replace c8:=Bool.eq_false_iff.mpr c8;subst c8
   have H1:(some 0)=some r:=by rw [if_neg (show ¬ (false=true) by decide)] at H;exact H
   clear H;have H:=H1;clear H1;obtain rfl:=os H
   go_enter Try.func144,Try.ntmps144
   go_wp2_with (first|((with_reducible refine aD (f:=165) rfl ?_);refine aT (some 11) rfl rfl Try.func165 (by kernel_rfl) rfl #[.int .i64 a0,.int .i64 a1] rfl ml ?_;(with_reducible refine (cR.calls a0 a1 true _ A5.out).mono ?_);rintro e w' ⟨rfl,⟨nd,rfl⟩⟩;refine ⟨_,rfl,?_⟩)|(go_at_call 61;(try simp only [aJ,aK]);(with_reducible refine (aY.calls a3 1 a0 false _ A7.out).mono ?_);rintro e w' ⟨rfl,⟨nd,rfl⟩⟩));go_ret;exact ⟨e1,dn⟩
 ·replace c6:=Bool.eq_false_iff.mpr c6;subst c6
  have H1:(some 0)=some r:=by rw [if_neg (show ¬ (false=true) by decide)] at H;exact H
  clear H;have H:=H1;clear H1;obtain rfl:=os H
  go_enter Try.func144,Try.ntmps144
  go_wp2_with (first|((with_reducible refine aD (f:=165) rfl ?_);refine aT (some 11) rfl rfl Try.func165 (by kernel_rfl) rfl #[.int .i64 a0,.int .i64 a1] rfl ml ?_;(with_reducible refine (cR.calls a0 a1 false _ A5.out).mono ?_);rintro e w' ⟨rfl,⟨nd,rfl⟩⟩;refine ⟨_,rfl,?_⟩));go_ret;exact ⟨e1,dn⟩
def jH.f (a0:Int) (a1:Int) (a2:Int):Option (Int):=(cT.f a0 a1 a2).bind fun A1=>(if A1=true then ((dE.f a0 (wrap64 (a1 + a2))).bind fun A0=>(some A0)) else (some 0))
theorem jH.calls (a0:Int) (a1:Int) (a2:Int) (r:Int) (w:World) (h:jH.f a0 a1 a2=some r) :
  Calls Try.prog 166 #[.int .i64 a0,.int .i64 a1,.int .i64 a2] w fun e w'=>e = .returned (.int .i64 r)∧bT w w':=by
 have H:((cT.f a0 a1 a2).bind fun A1=>(if A1=true then ((dE.f a0 (wrap64 (a1 + a2))).bind fun A0=>(some A0)) else (some 0)))=some r:=h;clear h;replace H:=ob H;obtain ⟨A1,A40,H⟩:=H;replace H:(if A1=true then ((dE.f a0 (wrap64 (a1 + a2))).bind fun A0=>(some A0)) else (some 0))=some r:=H;have A4:=aA.mk A40;clear A40
 by_cases c5:A1=true
 ·subst c5
  have H1:((dE.f a0 (wrap64 (a1 + a2))).bind fun A0=>(some A0))=some r:=by rw [if_pos rfl] at H;exact H
  clear H;have H:=H1;clear H1;replace H:=ob H;obtain ⟨A0,A60,H⟩:=H;replace H:(some A0)=some r:=H;have A6:=aA.mk A60;clear A60;obtain rfl:=os H
  go_enter Try.func166,Try.ntmps166
  go_wp2_with (first|((with_reducible refine aD (f:=173) rfl ?_);refine aT (some 10) rfl rfl Try.func173 (by kernel_rfl) rfl #[.int .i64 a0,.int .i64 a1,.int .i64 a2] rfl ml ?_;(with_reducible refine (cT.calls a0 a1 a2 true _ A4.out).mono ?_);rintro e w' ⟨rfl,⟨nd,rfl⟩⟩;refine ⟨_,rfl,?_⟩)|((with_reducible refine aD (f:=64) rfl ?_);refine aT (some 16) rfl rfl Try.func64 (by kernel_rfl) rfl #[.int .i64 a0,.int .i64 (wrap64 (a1 + a2))] rfl ml ?_;(with_reducible refine (dE.calls a0 (wrap64 (a1 + a2)) A0 _ A6.out).mono ?_);rintro e w' ⟨rfl,⟨nd,rfl⟩⟩;refine ⟨_,rfl,?_⟩));go_ret;exact ⟨e1,dn⟩
 ·replace c5:=Bool.eq_false_iff.mpr c5;subst c5
  have H1:(some 0)=some r:=by rw [if_neg (show ¬ (false=true) by decide)] at H;exact H
  clear H;have H:=H1;clear H1;obtain rfl:=os H
  go_enter Try.func166,Try.ntmps166
  go_wp2_with (first|((with_reducible refine aD (f:=173) rfl ?_);refine aT (some 10) rfl rfl Try.func173 (by kernel_rfl) rfl #[.int .i64 a0,.int .i64 a1,.int .i64 a2] rfl ml ?_;(with_reducible refine (cT.calls a0 a1 a2 false _ A4.out).mono ?_);rintro e w' ⟨rfl,⟨nd,rfl⟩⟩;refine ⟨_,rfl,?_⟩));go_ret;exact ⟨e1,dn⟩
def jQ.f (a0:Int) (a1:Int) (a2:Int):Option (Int):=(cT.f a0 a1 a2).bind fun A0=>(if A0=true then (if a2=0 then (if 0≤(IntKind.u64.wrap (a0)) then (some (wrap64 ((shl .i64 1 (IntKind.u64.wrap (a0))) - 1))) else (none)) else (some (wrap64 (Int.tdiv a1 a2)))) else (some 0))
theorem jQ.calls (a0:Int) (a1:Int) (a2:Int) (r:Int) (w:World) (h:jQ.f a0 a1 a2=some r) :
  Calls Try.prog 169 #[.int .i64 a0,.int .i64 a1,.int .i64 a2] w fun e w'=>e = .returned (.int .i64 r)∧bT w w':=by
 have H:((cT.f a0 a1 a2).bind fun A0=>(if A0=true then (if a2=0 then (if 0≤(IntKind.u64.wrap (a0)) then (some (wrap64 ((shl .i64 1 (IntKind.u64.wrap (a0))) - 1))) else (none)) else (some (wrap64 (Int.tdiv a1 a2)))) else (some 0)))=some r:=h;clear h;replace H:=ob H;obtain ⟨A0,A40,H⟩:=H
 try dsimp only at H
 have A4:=aA.mk A40;clear A40
 by_cases c5:A0=true
 ·subst c5
  have H1:(if a2=0 then (if 0≤(IntKind.u64.wrap (a0)) then (some (wrap64 ((shl .i64 1 (IntKind.u64.wrap (a0))) - 1))) else (none)) else (some (wrap64 (Int.tdiv a1 a2))))=some r:=by rw [if_pos rfl] at H;exact H
  clear H;have H:=H1;clear H1
  by_cases c6:a2=0
  ·rw [if_pos c6] at H;have c6b0:(a2 == 0)=true:=beq_iff_eq.mpr c6;have c6b1:(a2 != 0)=false:=bne_eq_false_iff_eq.mpr c6;clear c6;obtain ⟨ji7,hji7⟩:∃ j_:Int,(IntKind.u64.wrap (a0))=j_:=⟨_,rfl⟩
   replace H:(if 0≤(ji7) then (some (wrap64 ((shl .i64 1 (ji7)) - 1))) else (none))=some r:=by first|(rw [hji7] at H;exact H)|(simp only [hji7] at H ⊢;exact H)
   (try rw [hji7] at A4)
   by_cases c8:0≤(ji7)
   ·rw [if_pos c8] at H;have c8b0:=eq_true c8;have c8b1:decide (0≤(ji7))=true:=decide_eq_true c8;clear c8;obtain ⟨ji9,hji9⟩:∃ j_:Int,(shl .i64 1 (ji7))=j_:=⟨_,rfl⟩
    replace H:(some (wrap64 ((ji9) - 1)))=some r:=by first|(rw [hji9] at H;exact H)|(simp only [hji9] at H ⊢;exact H)
    (try rw [hji9] at A4)
    have hji9_:(IntKind.i64.wrap (1 * 2 ^ min (ji7).toNat 64))=ji9:=hji9;have hji9z:(ji7)≤64→(IntKind.i64.wrap (1 * 2 ^ (ji7).toNat))=ji9:=gK hji9
    have hji9u:(IntKind.i64.wrap (2 ^ min (ji7).toNat 64))=ji9:=by have h_:=hji9_;rw [Int.one_mul] at h_;exact h_
    have hji9v:(ji7)≤64→(IntKind.i64.wrap (2 ^ (ji7).toNat))=ji9:=fun hle_=>by have h_:=hji9z hle_;rw [Int.one_mul] at h_;exact h_
    have hji9y:(wrap64 (1 * 2 ^ min (ji7).toNat 64))=ji9:=(aJ _).symm.trans hji9_
    have hji9x:(ji7)≤64→(wrap64 (1 * 2 ^ (ji7).toNat))=ji9:=fun h_=>(aJ _).symm.trans (hji9z h_)
    obtain rfl:=os H
    go_enter Try.func169,Try.ntmps169
    go_wp2_with (first|((with_reducible refine aD (f:=173) rfl ?_);refine aT (some 11) rfl rfl Try.func173 (by kernel_rfl) rfl #[.int .i64 a0,.int .i64 a1,.int .i64 a2] rfl ml ?_;(with_reducible refine (cT.calls a0 a1 a2 true _ A4.out).mono ?_);rintro e w' ⟨rfl,⟨nd,rfl⟩⟩;refine ⟨_,rfl,?_⟩));go_ret;exact ⟨by first|rfl|(simp;done)|(simp only [← hji7,← hji9] <;> (first|rfl|simp))|(simp [*];done),by repeat (first|exact bT.refl _|apply bT.step)⟩
   ·rw [if_neg c8] at H;exact absurd H (by simp)
  ·rw [if_neg c6] at H;have c6b0:(a2 == 0)=false:=beq_eq_false_iff_ne.mpr c6;have c6b1:(a2 != 0)=true:=bne_iff_ne.mpr c6;obtain rfl:=os H
   go_enter Try.func169,Try.ntmps169
   go_wp2_with (first|((with_reducible refine aD (f:=173) rfl ?_);refine aT (some 11) rfl rfl Try.func173 (by kernel_rfl) rfl #[.int .i64 a0,.int .i64 a1,.int .i64 a2] rfl ml ?_;(with_reducible refine (cT.calls a0 a1 a2 true _ A4.out).mono ?_);rintro e w' ⟨rfl,⟨nd,rfl⟩⟩;refine ⟨_,rfl,?_⟩));go_ret;exact ⟨e1,dn⟩
 ·replace c5:=Bool.eq_false_iff.mpr c5;subst c5
  have H1:(some 0)=some r:=by rw [if_neg (show ¬ (false=true) by decide)] at H;exact H
  clear H;have H:=H1;clear H1;obtain rfl:=os H
  go_enter Try.func169,Try.ntmps169
  go_wp2_with (first|((with_reducible refine aD (f:=173) rfl ?_);refine aT (some 11) rfl rfl Try.func173 (by kernel_rfl) rfl #[.int .i64 a0,.int .i64 a1,.int .i64 a2] rfl ml ?_;(with_reducible refine (cT.calls a0 a1 a2 false _ A4.out).mono ?_);rintro e w' ⟨rfl,⟨nd,rfl⟩⟩;refine ⟨_,rfl,?_⟩));go_ret;exact ⟨e1,dn⟩
def jP.f (a0:Int) (a1:Int) (a2:Int):Option (Int):=(cT.f a0 a1 a2).bind fun A1=>(if A1=true then ((dE.f a0 (wrap64 (a1 * a2))).bind fun A0=>(some A0)) else (some 0))
theorem jP.calls (a0:Int) (a1:Int) (a2:Int) (r:Int) (w:World) (h:jP.f a0 a1 a2=some r) :
  Calls Try.prog 168 #[.int .i64 a0,.int .i64 a1,.int .i64 a2] w fun e w'=>e = .returned (.int .i64 r)∧bT w w':=by
 have H:((cT.f a0 a1 a2).bind fun A1=>(if A1=true then ((dE.f a0 (wrap64 (a1 * a2))).bind fun A0=>(some A0)) else (some 0)))=some r:=h;clear h;replace H:=ob H;obtain ⟨A1,A40,H⟩:=H;replace H:(if A1=true then ((dE.f a0 (wrap64 (a1 * a2))).bind fun A0=>(some A0)) else (some 0))=some r:=H;have A4:=aA.mk A40;clear A40
 by_cases c5:A1=true
 ·subst c5
  have H1:((dE.f a0 (wrap64 (a1 * a2))).bind fun A0=>(some A0))=some r:=by rw [if_pos rfl] at H;exact H
  clear H;have H:=H1;clear H1;replace H:=ob H;obtain ⟨A0,A60,H⟩:=H;replace H:(some A0)=some r:=H;have A6:=aA.mk A60;clear A60;obtain rfl:=os H
  go_enter Try.func168,Try.ntmps168
  go_wp2_with (first|((with_reducible refine aD (f:=173) rfl ?_);refine aT (some 10) rfl rfl Try.func173 (by kernel_rfl) rfl #[.int .i64 a0,.int .i64 a1,.int .i64 a2] rfl ml ?_;(with_reducible refine (cT.calls a0 a1 a2 true _ A4.out).mono ?_);rintro e w' ⟨rfl,⟨nd,rfl⟩⟩;refine ⟨_,rfl,?_⟩)|((with_reducible refine aD (f:=64) rfl ?_);refine aT (some 16) rfl rfl Try.func64 (by kernel_rfl) rfl #[.int .i64 a0,.int .i64 (wrap64 (a1 * a2))] rfl ml ?_;(with_reducible refine (dE.calls a0 (wrap64 (a1 * a2)) A0 _ A6.out).mono ?_);rintro e w' ⟨rfl,⟨nd,rfl⟩⟩;refine ⟨_,rfl,?_⟩));go_ret;exact ⟨e1,dn⟩
 ·replace c5:=Bool.eq_false_iff.mpr c5;subst c5
  have H1:(some 0)=some r:=by rw [if_neg (show ¬ (false=true) by decide)] at H;exact H
  clear H;have H:=H1;clear H1;obtain rfl:=os H
  go_enter Try.func168,Try.ntmps168
  go_wp2_with (first|((with_reducible refine aD (f:=173) rfl ?_);refine aT (some 10) rfl rfl Try.func173 (by kernel_rfl) rfl #[.int .i64 a0,.int .i64 a1,.int .i64 a2] rfl ml ?_;(with_reducible refine (cT.calls a0 a1 a2 false _ A4.out).mono ?_);rintro e w' ⟨rfl,⟨nd,rfl⟩⟩;refine ⟨_,rfl,?_⟩));go_ret;exact ⟨e1,dn⟩
def jL.f (a0:Int) (a1:Int) (a2:Int):Option (Int):=(cT.f a0 a1 a2).bind fun A0=>(if A0=true then (if a2=0 then (some a1) else (some (Int.tmod a1 a2))) else (some 0))
theorem jL.calls (a0:Int) (a1:Int) (a2:Int) (r:Int) (w:World) (h:jL.f a0 a1 a2=some r) :
  Calls Try.prog 170 #[.int .i64 a0,.int .i64 a1,.int .i64 a2] w fun e w'=>e = .returned (.int .i64 r)∧bT w w':=by
 have H:((cT.f a0 a1 a2).bind fun A0=>(if A0=true then (if a2=0 then (some a1) else (some (Int.tmod a1 a2))) else (some 0)))=some r:=h;clear h;replace H:=ob H;obtain ⟨A0,A40,H⟩:=H;replace H:(if A0=true then (if a2=0 then (some a1) else (some (Int.tmod a1 a2))) else (some 0))=some r:=H;have A4:=aA.mk A40;clear A40
 by_cases c5:A0=true
 ·subst c5
  have H1:(if a2=0 then (some a1) else (some (Int.tmod a1 a2)))=some r:=by rw [if_pos rfl] at H;exact H
  clear H;have H:=H1;clear H1
  by_cases c6:a2=0
  ·rw [if_pos c6] at H;have c6b0:(a2 == 0)=true:=beq_iff_eq.mpr c6;have c6b1:(a2 != 0)=false:=bne_eq_false_iff_eq.mpr c6;clear c6;obtain rfl:=os H
   go_enter Try.func170,Try.ntmps170
   go_wp2_with (first|((with_reducible refine aD (f:=173) rfl ?_);refine aT (some 11) rfl rfl Try.func173 (by kernel_rfl) rfl #[.int .i64 a0,.int .i64 a1,.int .i64 a2] rfl ml ?_;(with_reducible refine (cT.calls a0 a1 a2 true _ A4.out).mono ?_);rintro e w' ⟨rfl,⟨nd,rfl⟩⟩;refine ⟨_,rfl,?_⟩));go_ret;exact ⟨e1,dn⟩
  ·rw [if_neg c6] at H;have c6b0:(a2 == 0)=false:=beq_eq_false_iff_ne.mpr c6;have c6b1:(a2 != 0)=true:=bne_iff_ne.mpr c6;obtain rfl:=os H
   go_enter Try.func170,Try.ntmps170
   go_wp2_with (first|((with_reducible refine aD (f:=173) rfl ?_);refine aT (some 11) rfl rfl Try.func173 (by kernel_rfl) rfl #[.int .i64 a0,.int .i64 a1,.int .i64 a2] rfl ml ?_;(with_reducible refine (cT.calls a0 a1 a2 true _ A4.out).mono ?_);rintro e w' ⟨rfl,⟨nd,rfl⟩⟩;refine ⟨_,rfl,?_⟩));go_ret;exact ⟨e1,dn⟩
 ·replace c5:=Bool.eq_false_iff.mpr c5;subst c5
  have H1:(some 0)=some r:=by rw [if_neg (show ¬ (false=true) by decide)] at H;exact H
  clear H;have H:=H1;clear H1;obtain rfl:=os H
  go_enter Try.func170,Try.ntmps170
  go_wp2_with (first|((with_reducible refine aD (f:=173) rfl ?_);refine aT (some 11) rfl rfl Try.func173 (by kernel_rfl) rfl #[.int .i64 a0,.int .i64 a1,.int .i64 a2] rfl ml ?_;(with_reducible refine (cT.calls a0 a1 a2 false _ A4.out).mono ?_);rintro e w' ⟨rfl,⟨nd,rfl⟩⟩;refine ⟨_,rfl,?_⟩));go_ret;exact ⟨e1,dn⟩
def jE.f (a0:Int) (a1:Int) (a2:Int):Option (Int):=(cT.f a0 a1 a2).bind fun A1=>(if A1=true then (if a2 ≥ a0 then (some 0) else (if 0≤(IntKind.u64.wrap (a2)) then ((dE.f a0 (shl .i64 a1 (IntKind.u64.wrap (a2)))).bind fun A0=>(some A0)) else (none))) else (some 0))
theorem jE.calls (a0:Int) (a1:Int) (a2:Int) (r:Int) (w:World) (h:jE.f a0 a1 a2=some r) :
  Calls Try.prog 171 #[.int .i64 a0,.int .i64 a1,.int .i64 a2] w fun e w'=>e = .returned (.int .i64 r)∧bT w w':=by
 have H:((cT.f a0 a1 a2).bind fun A1=>(if A1=true then (if a2 ≥ a0 then (some 0) else (if 0≤(IntKind.u64.wrap (a2)) then ((dE.f a0 (shl .i64 a1 (IntKind.u64.wrap (a2)))).bind fun A0=>(some A0)) else (none))) else (some 0)))=some r:=h;clear h;replace H:=ob H;obtain ⟨A1,A40,H⟩:=H
 try dsimp only at H
 have A4:=aA.mk A40;clear A40
 by_cases c5:A1=true
 ·subst c5
  have H1:(if a2 ≥ a0 then (some 0) else (if 0≤(IntKind.u64.wrap (a2)) then ((dE.f a0 (shl .i64 a1 (IntKind.u64.wrap (a2)))).bind fun A0=>(some A0)) else (none)))=some r:=by rw [if_pos rfl] at H;exact H
  clear H;have H:=H1;clear H1
  by_cases c6:a2 ≥ a0
  ·rw [if_pos c6] at H;have c6b0:decide (a0≤a2)=true:=decide_eq_true c6;clear c6;obtain rfl:=os H
   go_enter Try.func171,Try.ntmps171
   go_wp2_with (first|((with_reducible refine aD (f:=173) rfl ?_);refine aT (some 10) rfl rfl Try.func173 (by kernel_rfl) rfl #[.int .i64 a0,.int .i64 a1,.int .i64 a2] rfl ml ?_;(with_reducible refine (cT.calls a0 a1 a2 true _ A4.out).mono ?_);rintro e w' ⟨rfl,⟨nd,rfl⟩⟩;refine ⟨_,rfl,?_⟩));go_ret;exact ⟨e1,dn⟩
  ·rw [if_neg c6] at H;have c6b0:decide (a0≤a2)=false:=decide_eq_false c6;clear c6;obtain ⟨ji7,hji7⟩:∃ j_:Int,(IntKind.u64.wrap (a2))=j_:=⟨_,rfl⟩
   replace H:(if 0≤(ji7) then ((dE.f a0 (shl .i64 a1 (ji7))).bind fun A0=>(some A0)) else (none))=some r:=by first|(rw [hji7] at H;exact H)|(simp only [hji7] at H ⊢;exact H)
   (try rw [hji7] at A4)
   by_cases c8:0≤(ji7)
   ·rw [if_pos c8] at H;have c8b0:=eq_true c8;have c8b1:decide (0≤(ji7))=true:=decide_eq_true c8;clear c8;obtain ⟨ji9,hji9⟩:∃ j_:Int,(shl .i64 a1 (ji7))=j_:=⟨_,rfl⟩
    replace H:((dE.f a0 (ji9)).bind fun A0=>(some A0))=some r:=by first|(rw [hji9] at H;exact H)|(simp only [hji9] at H ⊢;exact H)
    (try rw [hji9] at A4)
    have hji9_:(IntKind.i64.wrap (a1 * 2 ^ min (ji7).toNat 64))=ji9:=hji9;have hji9z:(ji7)≤64→(IntKind.i64.wrap (a1 * 2 ^ (ji7).toNat))=ji9:=gK hji9;have hji9y:(wrap64 (a1 * 2 ^ min (ji7).toNat 64))=ji9:=(aJ _).symm.trans hji9_
    have hji9x:(ji7)≤64→(wrap64 (a1 * 2 ^ (ji7).toNat))=ji9:=fun h_=>(aJ _).symm.trans (hji9z h_)
    replace H:=ob H;obtain ⟨A0,A100,H⟩:=H;replace H:(some A0)=some r:=H;have A10:=aA.mk A100;clear A100;obtain rfl:=os H
    go_enter Try.func171,Try.ntmps171
    go_wp2_with (first|((with_reducible refine aD (f:=173) rfl ?_);refine aT (some 10) rfl rfl Try.func173 (by kernel_rfl) rfl #[.int .i64 a0,.int .i64 a1,.int .i64 a2] rfl ml ?_;(with_reducible refine (cT.calls a0 a1 a2 true _ A4.out).mono ?_);rintro e w' ⟨rfl,⟨nd,rfl⟩⟩;refine ⟨_,rfl,?_⟩)|((with_reducible refine aD (f:=64) rfl ?_);refine aT (some 22) rfl rfl Try.func64 (by kernel_rfl) rfl #[.int .i64 a0,.int .i64 ji9] rfl (by (try simp only [List.map_toArray,List.map_cons,List.map_nil]);first|done|(simp only [hji9];rfl)|rfl|(simp only [List.length_drop,List.length_take];rfl)) ?_;(with_reducible refine (dE.calls a0 ji9 A0 _ A10.out).mono ?_);rintro e w' ⟨rfl,⟨nd,rfl⟩⟩;refine ⟨_,rfl,?_⟩));go_ret;exact ⟨by first|rfl|(simp;done)|(simp only [← hji7,← hji9] <;> (first|rfl|simp))|(simp [*];done),by repeat (first|exact bT.refl _|apply bT.step)⟩
   ·rw [if_neg c8] at H;exact absurd H (by simp)
 ·replace c5:=Bool.eq_false_iff.mpr c5;subst c5
  have H1:(some 0)=some r:=by rw [if_neg (show ¬ (false=true) by decide)] at H;exact H
  clear H;have H:=H1;clear H1;obtain rfl:=os H
  go_enter Try.func171,Try.ntmps171
  go_wp2_with (first|((with_reducible refine aD (f:=173) rfl ?_);refine aT (some 10) rfl rfl Try.func173 (by kernel_rfl) rfl #[.int .i64 a0,.int .i64 a1,.int .i64 a2] rfl ml ?_;(with_reducible refine (cT.calls a0 a1 a2 false _ A4.out).mono ?_);rintro e w' ⟨rfl,⟨nd,rfl⟩⟩;refine ⟨_,rfl,?_⟩));go_ret;exact ⟨e1,dn⟩
end Go.Proofs.Ythipjoioicmcnaa.G
