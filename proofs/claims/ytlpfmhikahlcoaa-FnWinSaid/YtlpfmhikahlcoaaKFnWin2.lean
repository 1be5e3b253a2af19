-- texts of this session, merged by a program of it (wip/gen/pack.py)
import Derived.Test.YtlpfmhikahlcoaaKFnWin1
import Derived.Test.YtlpfmhikahlcoaaProg
import Derived.Below
import Derived.Deep.Draws
import Derived.Deep.AppendLies
import Derived.Maps.AppendAt
import Derived.OwnWalk
import Derived.Laws.BytesArg
import Derived.Laws.MakeOwn
import Derived.Laws.OwnMore
import Derived.Deep.OwnRows
import Derived.Tactics
import Derived.Lib.ConvBytes
import Derived.Laws.Slices
import Derived.WalkKit
import Derived.KernelRfl
import Derived.RowKit3
import Derived.Deep.LoopGhost
import Derived.Deep.QuietTactic
import Derived.BigQuiet
import Derived.WideLaws
import Derived.Deep.DeepCutAuto
import Derived.Deep.CutBlock
import Derived.Deep.RegionHeld3
import Derived.Laws.Rows
import Derived.Lib.AppendStr
import Derived.ArgAppend
import Derived.Laws.IdiomCopy
import Derived.OrdersHeld
import Derived.Laws.BitsLemmas
import Derived.RowKit
import Derived.Laws.StructEq
import Derived.Maps.OwnOps
import Derived.Maps.OwnSet
import Derived.Maps.Views
import Derived.DeepKeys4
import Derived.StringKeys
import Derived.Shelf.Strings.Search3
import Derived.Shelf.Strings.Count
import Derived.Lib.IndexAny
namespace Go.Proofs.YtlpfmhikahlcoaaW.PrintWords
open Go.RowKit
def Foot (P:World→Prop) (W:World) (ok:Nat→Prop):Prop:=∀ W':World,(∀ k,ok k→k < W.heap.size→W'.heap[k]? = W.heap[k]?)→P W'
theorem heap_lt {W W1:World} {k:Nat} (h:W1.heap[k]? = W.heap[k]?) (hlt:k < W.heap.size):k < W1.heap.size:=by
 rw [Array.getElem?_eq_getElem hlt] at h
 exact (Array.getElem?_eq_some_iff.1 h).1
namespace Foot
variable {P Q:World→Prop} {W W1:World} {ok ok':Nat→Prop}
theorem now (h:Foot P W ok):P W:=h W (fun _ _ _=>rfl)
theorem mono (h:Foot P W ok) (hok:∀ k,ok k→ok' k):Foot P W ok':=fun W' hW=>h W' (fun k hk hlt=>hW k (hok k hk) hlt)
theorem bound (h:Foot P W ok):Foot P W (fun k=>ok k∧k < W.heap.size):=fun W' hW=>h W' (fun k hk hlt=>hW k ⟨hk,hlt⟩ hlt)
theorem step (h:Foot P W ok) (hm:∀ k,ok k→k < W.heap.size→W1.heap[k]? = W.heap[k]?):Foot P W1 ok:=fun W' hW=>h W' (fun k hk hlt=>(hW k hk (heap_lt (hm k hk hlt) hlt)).trans (hm k hk hlt))
theorem imp (h:Foot P W ok) (hi:∀ W',P W'→Q W'):Foot Q W ok:=fun W' hW=>hi W' (h W' hW)
end Foot
namespace Kd
def F {α:Type} (d:Kd α) (W:World) (ok:Nat→Prop) (A:Option Addr) (n:Nat) (xs:List α):Prop:=Foot (fun W=>d.C W A n xs) W ok
def FK {α:Type} (d:Kd α) (W:World) (ok:Nat→Prop) (x:α) (c:List Value):Prop:=Foot (fun W=>d.K W x c) W ok
section
variable {α β:Type} {d:Kd α} {e base n n' cc g N:Nat} {ok ok' okp S:Nat→Prop} {w w0 w1 W W1:World} {A A':Option Addr} {u v v1:Value} {xs:List α} {xs':List β} {d':Kd β} {x:α} {c:List Value}
theorem F_now (h:F d W ok A n xs):d.C W A n xs:=Foot.now h
theorem F_imp (h:F d W ok A n xs) (hi:∀ W',d.C W' A n xs→d'.C W' A' n' xs'):F d' W ok A' n' xs':=Foot.imp h hi
theorem R_F (h:d.R e W base ok (.slice A n cc) xs):F d W ok A n xs:=fun W' hW=>by
 have h2:=R_reads' (R_step h hW)
 rw [h2.1]
 exact h2.2.2
theorem FK_now (h:FK d W ok x c):d.K W x c:=Foot.now h
theorem FK_mono (h:FK d W ok x c) (hok:∀ k,ok k→ok' k):FK d W ok' x c:=Foot.mono h hok
theorem FK_bound (h:FK d W ok x c):FK d W (fun k=>ok k∧k < W.heap.size) x c:=Foot.bound h
theorem FK_step (h:FK d W ok x c) (hm:∀ k,ok k→k < W.heap.size→W1.heap[k]? = W.heap[k]?):FK d W1 ok x c:=Foot.step h hm
theorem FK_of_M (h:d.M W base ok x c):FK d W ok x c:=fun _ hW=>d.K_of_M (M_step h hW)
theorem emptied (W:World) (g:Nat):∃ W':World,(∀ k,k≠g→W'.heap[k]? = W.heap[k]?)∧∀ a:Addr,a.block=g→W'.cell? a=none:=by
 refine ⟨{ W with heap:=W.heap.setIfInBounds g (.cells #[] 0) },fun k hk=>by simp [Ne.symm hk],fun a ha=>?_⟩
 subst ha
 by_cases hlt:a.block < W.heap.size
 ·simp [World.cell?,hlt]
 ·simp [World.cell?,hlt]
end
end Kd
namespace Kd
def chunks (sz:Nat) (n:Nat) (inner:List Value):List (List Value):=(List.range n).map fun j=>(inner.drop (j * sz)).take sz
theorem chunks_length (sz n:Nat) (inner:List Value):(chunks sz n inner).length=n:=by simp [chunks]
theorem chunks_at {sz n:Nat} {inner:List Value} {j:Nat} (hj:j < n):(chunks sz n inner)[j]? = some ((inner.drop (j * sz)).take sz):=by simp [chunks,hj]
theorem chunks_get {sz n:Nat} {inner:List Value} {j:Nat} {c:List Value} (h:(chunks sz n inner)[j]? = some c):c=(inner.drop (j * sz)).take sz:=by
 have hj:j < n:=by have:=(List.getElem?_eq_some_iff.1 h).1;rwa [chunks_length] at this
 rw [chunks_at hj] at h
 injection h with h
 exact h.symm
theorem reps_raw {α:Type} {Rr:α→List Value→Prop} {sz:Nat} {xs:List α} {inner:List Value} (h:Reps Rr sz xs inner) (hR:∀ x c,Rr x c→c.length=sz∧∀ u∈c,u.oneCell'=true):Reps (fun x cs=>cs=x∧cs.length=sz∧∀ u∈cs,u.oneCell'=true) sz (chunks sz xs.length inner) inner:=by
 refine ⟨by rw [chunks_length];exact h.1,fun j p hj=>?_⟩
 have hjl:j < xs.length:=by have:=(List.getElem?_eq_some_iff.1 hj).1;rwa [chunks_length] at this
 have hp:=chunks_get hj
 exact ⟨hp.symm,hR _ _ (h.2 j _ (List.getElem?_eq_getElem hjl))⟩
section
variable {α:Type} {d:Kd α} {e base n cc g:Nat} {ok ok' okp S:Nat→Prop} {w w1 W W1:World} {A:Option Addr} {u v v1:Value} {xs:List α} {x:α} {c:List Value}
theorem F_get (h:F d W ok A n xs) (z:α) (i:Int) (h0:0≤i) (h1:i < n) :
  ∃ ad c,A=some ad∧c.length=d.sz∧FK d W ok (xs.getD i.toNat z) c∧(∀ j u,c[j]? = some u→W.cell? (ad.add (i.toNat * d.sz + j))=some u)∧(0 < d.sz→ok ad.block):=by
 obtain ⟨ad,c,rfl,hcl,hK,hcc⟩:=C_get (F_now h) z i h0 h1
 have hin:0 < d.sz→ok ad.block:=by
  intro hs
  by_cases hk:ok ad.block
  ·exact hk
  ·obtain ⟨W',h2,h3⟩:=emptied W ad.block
   obtain ⟨ad',c',he,hcl',_,hcc'⟩:=C_get (h W' (fun k hk' _=>h2 k (fun e=>hk (e ▸ hk')))) z i h0 h1
   injection he with he
   subst he
   have h4:=hcc' 0 _ (List.getElem?_eq_getElem (by omega))
   rw [h3 _ (add_block _ _)] at h4
   cases h4
 refine ⟨ad,c,rfl,hcl,fun W' hW=>?_,hcc,hin⟩
 obtain ⟨ad',c',he,hcl',hK',hcc'⟩:=C_get (h W' hW) z i h0 h1
 injection he with he
 subst he
 have hc:c=c':=by
  apply List.ext_getElem?
  intro j
  by_cases hj:j < d.sz
  ·have hb:W'.heap[ad.block]? = W.heap[ad.block]? := by
    have h5:=hcc j _ (List.getElem?_eq_getElem (by omega))
    have h6:=World.block_lt_of_cell? W _ h5
    rw [add_block] at h6
    exact hW _ (hin (by omega)) h6
   have h5:=hcc j _ (List.getElem?_eq_getElem (by omega))
   have h6:=hcc' j _ (List.getElem?_eq_getElem (by omega))
   have h7:W'.cell? (ad.add (i.toNat * d.sz + j))=W.cell? (ad.add (i.toNat * d.sz + j)):=by simp [World.cell?,add_block,hb]
   rw [h7,h5] at h6
   rw [List.getElem?_eq_getElem (by omega),List.getElem?_eq_getElem (by omega)]
   exact h6
  ·rw [List.getElem?_eq_none (by omega),List.getElem?_eq_none (by omega)]
 rw [hc]
 exact hK'
theorem F_rows (h:F d W ok A n xs):ReadsRow (fun x c=>FK d W ok x c) d.sz W A n xs:=by
 obtain ⟨hl,hm,hn⟩:=F_now h
 refine ⟨hl,hm,fun hp=>?_⟩
 obtain ⟨ad,rfl,_⟩:=hn hp
 refine ⟨ad,rfl,fun j p hj=>?_⟩
 obtain ⟨hjl,hjp⟩:=List.getElem?_eq_some_iff.1 hj
 obtain ⟨ad',c,he,hcl,hK,hcc,_⟩:=F_get h p (j:Int) (by omega) (by omega)
 injection he with he
 subst he
 simp only [Int.toNat_natCast] at hK hcc
 rw [List.getD_eq_getElem?_getD,hj] at hK
 exact ⟨c,hcl,hK,hcc⟩
def N {α:Type} (d:Kd α) (e:Nat) (w:World) (base:Nat) (ok:Nat→Prop) (v:Value) (xs:List α):Prop :=
 (∀ k,v.ownBlock=some k→ok k)∧∃ rows:List (List Value),rows.length=xs.length∧(raw d.sz).R e w base (fun k=>some k=v.ownBlock) v rows∧∀ (j:Nat) (x:α) (c:List Value),xs[j]? = some x→rows[j]? = some c→FK d w (fun k=>ok k∧some k≠v.ownBlock) x c
theorem raw_tight {sz:Nat} {rows:List (List Value)} (h:(raw sz).R e w base ok v rows):(raw sz).R e w base (fun k=>some k=v.ownBlock) v rows:=R_tight rfl h
theorem raw_any {sz:Nat} {rows:List (List Value)} (h:(raw sz).R e w base ok v rows):(raw sz).R e w base (fun _=>True) v rows:=R_mono h (fun _ _=>trivial)
theorem R_N (h:d.R e w base ok v xs):N d e w base ok v xs:=by
 obtain ⟨h0,inner,ho,hr⟩:=h
 refine ⟨h0,chunks d.sz xs.length inner,chunks_length _ _ _,⟨fun k hk=>hk.symm,inner,by rw [chunks_length];exact ho,reps_raw hr (fun x c hp=>⟨d.K_len (d.K_of_M hp),d.K_one (d.K_of_M hp)⟩)⟩,fun j x c hx hc=>?_⟩
 rw [chunks_get hc]
 exact FK_of_M (hr.2 j x hx)
theorem S_N (h:Kd.S d e w base ok v xs):N d e w base ok v xs:=R_N (S_R h)
theorem N_mono (h:N d e w base ok v xs) (hok:∀ k,ok k→ok' k):N d e w base ok' v xs:=by
 obtain ⟨h0,rows,hl,hR,hf⟩:=h
 exact ⟨fun k hk=>hok k (h0 k hk),rows,hl,hR,fun j x c hx hc=>FK_mono (hf j x c hx hc) (fun k hk=>⟨hok k hk.1,hk.2⟩)⟩
theorem N_lt (h:N d e w base ok v xs):∀ k,v.ownBlock=some k→k < w.heap.size:=by
 obtain ⟨_,rows,_,hR,_⟩:=h
 exact R_lt hR
theorem N_base (h:N d e w base ok v xs):∀ k,v.ownBlock=some k→base≤k:=by
 obtain ⟨_,rows,_,hR,_⟩:=h
 exact R_base hR
theorem N_typed (h:N d e w base ok v xs):∀ k,v.ownBlock=some k→∃ cells,w.heap[k]? = some (.cells cells e (0,0)):=by
 obtain ⟨_,rows,_,hR,_⟩:=h
 exact R_typed hR
theorem N_ne (h:N d e w base ok v xs) {t:Nat} {cells:Array Value} (hb:w.heap[g]? = some (.cells cells t (0,0))) (ht:e≠t):some g≠v.ownBlock:=by
 obtain ⟨_,rows,_,hR,_⟩:=h
 exact R_ne hR hb ht
theorem N_away (h:N d e w base ok v xs) (hok:∀ k,ok k→k≠g):some g≠v.ownBlock:=fun he=>hok g (h.1 g he.symm) rfl
theorem N_bound (h:N d e w base ok v xs):N d e w base (fun k=>ok k∧k < w.heap.size) v xs:=by
 have hlt:=N_lt h
 obtain ⟨h0,rows,hl,hR,hf⟩:=h
 exact ⟨fun k hk=>⟨h0 k hk,hlt k hk⟩,rows,hl,hR,fun j x c hx hc=>FK_mono (FK_bound (hf j x c hx hc)) (fun k hk=>⟨⟨hk.1.1,hk.2⟩,hk.1.2⟩)⟩
theorem N_lower {base':Nat} (h:N d e w base ok v xs) (hb:base'≤base):N d e w base' ok v xs:=by
 obtain ⟨h0,rows,hl,hR,hf⟩:=h
 exact ⟨h0,rows,hl,R_lower hR hb,hf⟩
theorem N_step (h:N d e w base ok v xs) (hm:∀ k,ok k→k < w.heap.size→w1.heap[k]? = w.heap[k]?):N d e w1 base ok v xs:=by
 obtain ⟨h0,rows,hl,hR,hf⟩:=h
 exact ⟨h0,rows,hl,R_step hR (fun k hk hlt=>hm k (h0 k hk.symm) hlt),fun j x c hx hc=>FK_step (hf j x c hx hc) (fun k hk hlt=>hm k hk.1 hlt)⟩
theorem N_below (h:N d e w base ok v xs) (hb:Below w.heap.size w w1):N d e w1 base ok v xs:=N_step h (fun k _ hk=>hb.block k hk)
theorem N_alloc (h:N d e w base ok v xs) (o:Obj):N d e (w.alloc o) base ok v xs:=N_below h (below_alloc (Below.refl _ _) o)
theorem N_drew (h:N d e w base ok v xs):N d e w.drew base ok v xs:=N_below h (below_drew (Below.refl _ _))
theorem N_drewN (h:N d e w base ok v xs) (m:Nat):N d e (w.drewN m) base ok v xs:=N_below h (pw_below_drewN (Below.refl _ _) m)
theorem N_grown (h:N d e w base ok v xs) {row:Option Nat} (hg:w.grownBy w1 row) (hok:∀ k,ok k→some k≠row):N d e w1 base ok v xs:=N_step h (fun k ho hk=>hg.block k hk (hok k ho))
theorem N_far (h:N d e w base ok v xs) {p:Addr} (hok:∀ k,ok k→k≠p.block) (u:Value):N d e (w.setCell p u) base ok v xs:=N_step h (fun k ho _=>Below.heap_setCell w p u k (hok k ho))
theorem N_keep (h:N d e w base ok v xs) (hk:KeepBut w w1 g none) (hok:∀ k,ok k→k≠g):N d e w1 base ok v xs:=N_step h (fun k ho hlt=>hk.2 k hlt (hok k ho) (by simp))
theorem N_elder' (h:N d e W base ok v xs) (hbase:∀ k,u.ownBlock=some k→W.heap.size≤k) (hb:Below W.heap.size W w1):N d e w1 base (fun k=>ok k∧some k≠u.ownBlock) v xs :=
 N_mono (N_below (N_bound h) hb) (fun k hk=>⟨hk.1,fun he=>by have:=hbase k he.symm;have:=hk.2;omega⟩)
theorem N_elderB (h:N d e w base ok v xs) (a:Nat) (ha:w.heap.size≤a):N d e w base (fun k=>ok k∧k≠a) v xs:=N_mono (N_bound h) (fun k hk=>⟨hk.1,by have:=hk.2;omega⟩)
theorem N_after (h:N d e W base (fun k=>ok k∧some k≠u.ownBlock) v xs) {u1:Value} (hg:W.grownBy w1 u.ownBlock) (hat:u1.ownBlock=u.ownBlock∨∃ b,u1.ownBlock=some b∧W.heap.size≤b):N d e w1 base (fun k=>ok k∧some k≠u1.ownBlock) v xs:=by
 refine N_mono (N_step (N_bound h) (fun k hk hlt=>hg.block k hlt hk.1.2)) (fun k hk=>⟨hk.1.1,?_⟩)
 rcases hat with hat | ⟨b,hb,hle⟩
 ·rw [hat];exact hk.1.2
 ·rw [hb]
  intro he
  injection he with he
  have:=hk.2
  omega
theorem N_slice (h:N d e w base ok v xs):∃ A c,v = .slice A xs.length c:=by
 obtain ⟨_,rows,hl,hR,_⟩:=h
 obtain ⟨A,c,he⟩:=R_slice hR
 exact ⟨A,c,by rw [he,hl]⟩
theorem N_form (h:N d e w base ok v xs) (hp:0 < xs.length):∃ g cap,v = .slice (some ⟨g,0,none⟩) xs.length cap∧base≤g∧g < w.heap.size∧∃ cells,w.heap[g]? = some (.cells cells e (0,0)):=by
 obtain ⟨_,rows,hl,hR,_⟩:=h
 rw [← hl] at hp ⊢
 exact R_form hR hp
theorem N_reads' {n c:Nat} (h:N d e w base ok (.slice A n c) xs):n=xs.length∧n≤c∧d.C w A xs.length xs:=by
 obtain ⟨_,rows,hl,hR,hf⟩:=h
 obtain ⟨hn,hc,hC⟩:=R_reads' hR
 refine ⟨by omega,hc,?_⟩
 rw [hl] at hC
 refine ⟨rfl,hC.2.1,fun hp=>?_⟩
 obtain ⟨ad,he,hcell⟩:=hC.2.2 hp
 refine ⟨ad,he,fun j p hj=>?_⟩
 have hjl:j < rows.length:=by have:=(List.getElem?_eq_some_iff.1 hj).1;omega
 obtain ⟨c',hcl,hK,hcc⟩:=hcell j _ (List.getElem?_eq_getElem hjl)
 have hk:=FK_now (hf j p _ hj (List.getElem?_eq_getElem hjl))
 refine ⟨c',hcl,?_,hcc⟩
 rw [show c'=rows[j] from hK.1]
 exact hk
theorem N_F {n:Nat} (h:N d e w base ok (.slice A n cc) xs):F d w ok A n xs:=fun W' hW=>by
 have h2:=N_reads' (N_step h hW)
 rw [h2.1]
 exact h2.2.2
theorem N_elem {n cap:Nat} (h:N d e W base ok (.slice (some ⟨g,0,none⟩) n cap) xs) (z:α) (i:Int) (h0:0≤i) (h1:i < n) :
  ∃ c,c.length=d.sz∧FK d W (fun k=>ok k∧k≠g) (xs.getD i.toNat z) c∧(∀ j u,c[j]? = some u→W.cell? ⟨g,i.toNat * d.sz + j,none⟩=some u)∧∀ j,W.frozen? ⟨g,i.toNat * d.sz + j,none⟩=false:=by
 obtain ⟨_,rows,hl,hR,hf⟩:=h
 have hn:=(R_reads' hR).1
 obtain ⟨c,hcl,hM,hcc,hfr⟩:=R_elem hR [] i h0 h1
 have hil:i.toNat < rows.length:=by omega
 have hil':i.toNat < xs.length:=by omega
 have hc:c=rows[i.toNat]:=by
  have h2:=hM.1
  rwa [List.getD_eq_getElem?_getD,List.getElem?_eq_getElem hil] at h2
 refine ⟨c,hcl,?_,hcc,hfr⟩
 rw [List.getD_eq_getElem?_getD,List.getElem?_eq_getElem hil']
 exact FK_mono (hf _ _ _ (List.getElem?_eq_getElem hil') (by rw [hc];exact List.getElem?_eq_getElem hil)) (fun k hk=>⟨hk.1,fun he=>hk.2 (by rw [he];simp [Value.ownBlock])⟩)
end
end Kd
namespace Kd
section
variable {α:Type} {d:Kd α} {e base n cap g:Nat} {ok ok' okp:Nat→Prop} {w w1 W:World} {v v1:Value} {xs ys:List α}
theorem N_appended {rows news:List (List Value)} (h0:∀ k,v.ownBlock=some k→ok k) (hl:rows.length=xs.length) (hf:∀ (j:Nat) (x:α) (c:List Value),xs[j]? = some x→rows[j]? = some c→FK d W (fun k=>ok k∧some k≠v.ownBlock) x c)
  (hl2:news.length=ys.length) (hf2:∀ (j:Nat) (x:α) (c:List Value),ys[j]? = some x→news[j]? = some c→FK d W okp x c) (hokp:∀ k,okp k→ok k∧some k≠v.ownBlock) (hfresh:∀ k,W.heap.size≤k→ok k)
  (hR:(raw d.sz).R e w1 base (fun _=>True) v1 (rows ++ news)) (hg:W.grownBy w1 v.ownBlock) (hat:v1.ownBlock=v.ownBlock∨∃ b,v1.ownBlock=some b∧W.heap.size≤b):N d e w1 base ok v1 (xs ++ ys):=by
 have hne:∀ k,some k≠v.ownBlock→k < W.heap.size→some k≠v1.ownBlock:=by
  intro k hk hlt
  rcases hat with hat | ⟨b,hb,hle⟩
  ·rw [hat];exact hk
  ·rw [hb]
   intro he
   injection he with he
   omega
 have step:∀ {x:α} {c:List Value} {o:Nat→Prop},FK d W o x c→(∀ k,o k→ok k∧some k≠v.ownBlock)→FK d w1 (fun k=>ok k∧some k≠v1.ownBlock) x c:=by
  intro x c o hq ho
  exact FK_mono (FK_step (FK_bound hq) (fun k hk hlt=>hg.block k hlt (ho k hk.1).2)) (fun k hk=>⟨(ho k hk.1).1,hne k (ho k hk.1).2 hk.2⟩)
 refine ⟨fun k hk=>?_,rows ++ news,by rw [List.length_append,List.length_append,hl,hl2],raw_tight hR,fun j x c hx hc=>?_⟩
 ·rcases hat with hat | ⟨b,hb,hle⟩
  ·exact h0 k (hat ▸ hk)
  ·rw [hb] at hk
   injection hk with hk
   exact hfresh k (by omega)
 ·rcases Nat.lt_or_ge j xs.length with hlt|hge
  ·rw [List.getElem?_append_left hlt] at hx
   rw [List.getElem?_append_left (by omega)] at hc
   exact step (hf j x c hx hc) (fun _ hk=>hk)
  ·rw [List.getElem?_append_right hge] at hx
   rw [List.getElem?_append_right (by omega),hl] at hc
   exact step (hf2 _ x c hx hc) hokp
theorem N_made {rows:List (List Value)} (hR:(raw d.sz).R e w1 base (fun k=>k=W.heap.size) v1 rows) (hg:W.grownBy w1 none) (hat:∃ b,v1.ownBlock=some b∧W.heap.size≤b) (hl:rows.length=xs.length) (hf:∀ (j:Nat) (x:α) (c:List Value),xs[j]? = some x→rows[j]? = some c→FK d W okp x c)
  (hok:∀ k,okp k→ok k) (hfresh:ok W.heap.size):N d e w1 base ok v1 xs:=by
 obtain ⟨b,hb,hle⟩:=hat
 refine ⟨fun k hk=>by rw [hR.1 k hk];exact hfresh,rows,hl,raw_tight hR,fun j x c hx hc=>?_⟩
 refine FK_mono (FK_step (FK_bound (hf j x c hx hc)) (fun k hk hlt=>hg.block k hlt (by simp))) (fun k hk=>⟨hok k hk.1,fun he=>?_⟩)
 rw [hb] at he
 injection he with he
 have:=hk.2
 omega
theorem N_written {rows:List (List Value)} {i:Int} {x':α} {c':List Value} (h0:∀ k,(Value.slice (some ⟨g,0,none⟩) n cap).ownBlock=some k→ok k) (hl:rows.length=xs.length) (hf:∀ (j:Nat) (x:α) (c:List Value),xs[j]? = some x→rows[j]? = some c→FK d W (fun k=>ok k∧some k≠(Value.slice (some ⟨g,0,none⟩) n cap).ownBlock) x c)
  (hR:(raw d.sz).R e w1 base (fun _=>True) (.slice (some ⟨g,0,none⟩) n cap) (rows.set i.toNat c')) (hg:W.grownBy w1 (some g)) (hM:FK d W okp x' c') (hokp:∀ k,okp k→ok k∧k≠g):N d e w1 base ok (.slice (some ⟨g,0,none⟩) n cap) (xs.set i.toNat x'):=by
 have hgo:some g=(Value.slice (some ⟨g,0,none⟩) n cap).ownBlock:=by simp [Value.ownBlock]
 refine ⟨h0,rows.set i.toNat c',by rw [List.length_set,List.length_set,hl],raw_tight hR,fun j x c hx hc=>?_⟩
 have hjl:j < xs.length:=by have:=(List.getElem?_eq_some_iff.1 hx).1;rwa [List.length_set] at this
 by_cases hji:j=i.toNat
 ·subst hji
  rw [List.getElem?_set_self hjl] at hx
  rw [List.getElem?_set_self (by omega)] at hc
  injection hx with hx
  injection hc with hc
  rw [← hx,← hc]
  exact FK_mono (FK_step hM (fun k hk hlt=>hg.block k hlt (fun he=>(hokp k hk).2 (by injection he)))) (fun k hk=>⟨(hokp k hk).1,fun he=>(hokp k hk).2 (by rw [← hgo] at he;injection he)⟩)
 ·rw [List.getElem?_set_ne (Ne.symm hji)] at hx hc
  exact FK_step (hf j x c hx hc) (fun k hk hlt=>hg.block k hlt (by rw [hgo];exact hk.2))
theorem N_seg (h:N d e W base ok (.slice (some ⟨g,0,none⟩) n cap) xs) (i:Int) (h0:0≤i) (h1:i < n) {c seg:List Value} {j:Nat} (hcl:c.length=d.sz) (hcc:∀ j u,c[j]? = some u→W.cell? ⟨g,i.toNat * d.sz + j,none⟩=some u)
  (hj:j + seg.length≤d.sz) {x':α} (hM:FK d W okp x' (c.take j ++ seg ++ c.drop (j + seg.length))) (hokp:∀ k,okp k→ok k∧k≠g) :
  N d e (W.setCells g (i.toNat * d.sz + j) seg) base ok (.slice (some ⟨g,0,none⟩) n cap) (xs.set i.toNat x')∧W.grownBy (W.setCells g (i.toNat * d.sz + j) seg) (some g):=by
 obtain ⟨hown,rows,hl,hR,hf⟩:=h
 obtain ⟨h2,h3⟩:=R_seg (raw_any hR) i h0 h1 (c:=c) (seg:=seg) (j:=j) (x':=c.take j ++ seg ++ c.drop (j + seg.length)) (okp:=fun _=>False) hcl hcc hj ⟨rfl,d.K_len (FK_now hM),d.K_one (FK_now hM)⟩ (fun _ hk=>hk.elim)
 exact ⟨N_written hown hl hf h2 h3 hM hokp,h3⟩
theorem reads_raw {Rr:α→List Value→Prop} {sz m:Nat} {A:Option Addr} (h:ReadsRow Rr sz W A m ys) (hR:∀ x c,Rr x c→c.length=sz∧∀ u∈c,u.oneCell'=true) :
  ∃ news:List (List Value),news.length=ys.length∧ReadsRow (fun x cs=>cs=x∧cs.length=sz∧∀ u∈cs,u.oneCell'=true) sz W A m news∧∀ (j:Nat) (x:α) (c:List Value),ys[j]? = some x→news[j]? = some c→Rr x c:=by
 rcases Nat.eq_zero_or_pos m with h0|hp
 ·have hy:ys=[]:=List.eq_nil_of_length_eq_zero (h.1.trans h0)
  subst hy
  exact ⟨[],rfl,⟨h0 ▸ rfl,h.2.1,fun hp=>by omega⟩,fun j x c hx=>by simp at hx⟩
 ·obtain ⟨ad,rfl,_⟩:=h.2.2 hp
  obtain ⟨inner,hr,hc⟩:=ReadsRow.inner_ h
  refine ⟨chunks sz ys.length inner,chunks_length _ _ _,⟨by rw [chunks_length];exact h.1,h.2.1,fun _=>⟨ad,rfl,fun j p hj=>?_⟩⟩,fun j x c hx hcc=>?_⟩
  ·have hjl:j < ys.length:=by have:=(List.getElem?_eq_some_iff.1 hj).1;rwa [chunks_length] at this
   have hpe:=chunks_get hj
   have hq:=hR _ _ (hr.2 j _ (List.getElem?_eq_getElem hjl))
   rw [← hpe] at hq
   refine ⟨p,hq.1,⟨rfl,hq⟩,fun i u hu=>?_⟩
   have hu2:inner[j * sz + i]? = some u:=by
    rw [hpe,List.getElem?_take] at hu
    split at hu
    ·rw [List.getElem?_drop] at hu
     exact hu
    ·cases hu
   exact hc _ u hu2
  ·rw [chunks_get hcc]
   exact hr.2 j x hx
end
section
variable {P:Program} {ops:Array Oper} {rest:List Oper} {o:Oper} {a:Act} {Q:Exit→Act→World→Prop} {Kc:Act→World→Prop} {α:Type}
theorem N_append_rows (d:Kd α) {w0 W:World} (base:Nat) (hgd:o.guard=none) (s x:Operand) (t e:TypeId) (z:Value) (bytes:Nat)
  (ho:o.op = .call { callee := .builtin .append,args:=#[s,x],argTypes:=#[t,t] })
  (ht:P.underlying t=some (.slice e)) (hinfo:(P.info? e).map (fun i=>(i.zero,i.size,i.bytes))=some (some z,d.sz,bytes)) (hz:z.cells.size=d.sz) (hs0:0 < d.sz) (hb0:0 < bytes)
  (v:Value) (xs ys:List α) (A:Option Addr) (m c:Nat) (ok okp:Nat→Prop) (hs:a.eval s=v) (hx:a.eval x = .slice A m c)
  (HO:N d e W base ok v xs) (HR:F d W okp A m ys) (hokp:∀ k,okp k→ok k∧some k≠v.ownBlock) (hfresh:∀ k,W.heap.size≤k→ok k)
  (HB:Below base w0 W) (hbase:base≤W.heap.size) (hl:(xs.length + m) * bytes≤140737488355328)
  (h:∀ v1 w1,N d e w1 base ok v1 (xs ++ ys)→Below base w0 w1→W.grownBy w1 v.ownBlock→(v1.ownBlock=v.ownBlock∨∃ b,v1.ownBlock=some b∧W.heap.size≤b)→wpList P ops Q rest (a.put o.dst v1) w1) :
  wpList P ops Q (o :: rest) a W:=by
 obtain ⟨h0,rows,hlr,hR,hf⟩:=HO
 obtain ⟨news,hnl,hnr,hnf⟩:=reads_raw (F_rows HR) (fun y c hk=>⟨d.K_len (FK_now hk),d.K_one (FK_now hk)⟩)
 refine R_append_rows (raw d.sz) base hgd s x t e z bytes ho ht hinfo hz hs0 hb0 v rows news A m c (fun _=>True) (fun _=>False) hs hx (raw_any hR) hnr (fun _ _ hk=>hk) (fun _ hk=>hk.elim) (fun _ _=>trivial) HB hbase (by rw [hlr];exact hl) ?_
 intro v1 w1 hr hb hg hat
 exact h v1 w1 (N_appended h0 hlr hf hnl hnf hokp hfresh hr hg hat) hb hg hat
theorem N_append_rows_step (d:Kd α) {w0 W:World} (base:Nat) (hw:Region.wanted o (yielded ops a.tmps)=true) (s x:Operand) (t e:TypeId) (z:Value) (bytes:Nat)
  (ho:o.op = .call { callee := .builtin .append,args:=#[s,x],argTypes:=#[t,t] })
  (ht:P.underlying t=some (.slice e)) (hinfo:(P.info? e).map (fun i=>(i.zero,i.size,i.bytes))=some (some z,d.sz,bytes)) (hz:z.cells.size=d.sz) (hs0:0 < d.sz) (hb0:0 < bytes)
  (v:Value) (xs ys:List α) (A:Option Addr) (m c:Nat) (ok okp:Nat→Prop) (hs:a.eval s=v) (hx:a.eval x = .slice A m c)
  (HO:N d e W base ok v xs) (HR:F d W okp A m ys) (hokp:∀ k,okp k→ok k∧some k≠v.ownBlock) (hfresh:∀ k,W.heap.size≤k→ok k)
  (HB:Below base w0 W) (hbase:base≤W.heap.size) (hl:(xs.length + m) * bytes≤140737488355328)
  (h:∀ v1 w1,N d e w1 base ok v1 (xs ++ ys)→Below base w0 w1→W.grownBy w1 v.ownBlock→(v1.ownBlock=v.ownBlock∨∃ b,v1.ownBlock=some b∧W.heap.size≤b)→Kc (a.put o.dst v1) w1) :
  if Region.wanted o (yielded ops a.tmps)=true then Oper.wp P o a W Kc Q else Kc (a.put o.dst undef) W:=by
 obtain ⟨h0,rows,hlr,hR,hf⟩:=HO
 obtain ⟨news,hnl,hnr,hnf⟩:=reads_raw (F_rows HR) (fun y c hk=>⟨d.K_len (FK_now hk),d.K_one (FK_now hk)⟩)
 refine R_append_rows_step (raw d.sz) base hw s x t e z bytes ho ht hinfo hz hs0 hb0 v rows news A m c (fun _=>True) (fun _=>False) hs hx (raw_any hR) hnr (fun _ _ hk=>hk) (fun _ hk=>hk.elim) (fun _ _=>trivial) HB hbase (by rw [hlr];exact hl) ?_
 intro v1 w1 hr hb hg hat
 exact h v1 w1 (N_appended h0 hlr hf hnl hnf hokp hfresh hr hg hat) hb hg hat
theorem N_lit (d:Kd α) {w0 W:World} (base e:Nat) (hgd:o.guard=none) {N':Tmp} (_hd:o.dst=some N') {xs:List α} {inner:List Value} {ok okp:Nat→Prop}
  (hrun:(execOp a.eval o).run P W = .ok (.value (.slice (some ⟨W.heap.size,0,none⟩) xs.length xs.length)) (W.alloc (.cells inner.toArray e)))
  (hrep:Reps (FK d W okp) d.sz xs inner) (hok:∀ k,okp k→ok k) (hfresh:ok W.heap.size) (HB:Below base w0 W) (hbase:base≤W.heap.size) (hm:xs.length≤9223372036854775807)
  (h:∀ v1 w1,N d e w1 base ok v1 xs→Below base w0 w1→W.grownBy w1 none→(∃ b,v1.ownBlock=some b∧W.heap.size≤b)→wpList P ops Q rest (a.put o.dst v1) w1) :
  wpList P ops Q (o :: rest) a W:=by
 refine R_lit (raw d.sz) base e hgd _hd (xs:=chunks d.sz xs.length inner) (inner:=inner) (ok:=fun k=>k=W.heap.size) (okp:=fun _=>False) (by rw [chunks_length];exact hrun) (reps_raw hrep (fun y c hk=>⟨d.K_len (FK_now hk),d.K_one (FK_now hk)⟩)) (fun _ hk=>hk.elim) rfl HB hbase (by rw [chunks_length];exact hm) ?_
 intro v1 w1 hr hb hg hat
 exact h v1 w1 (N_made hr hg hat (chunks_length _ _ _) (fun j y c hy hc=>by rw [chunks_get hc];exact hrep.2 j y hy) hok hfresh) hb hg hat
theorem N_lit_step (d:Kd α) {w0 W:World} (base e:Nat) (hw:Region.wanted o (yielded ops a.tmps)=true) {N':Tmp} (_hd:o.dst=some N') {xs:List α} {inner:List Value} {ok okp:Nat→Prop}
  (hrun:(execOp a.eval o).run P W = .ok (.value (.slice (some ⟨W.heap.size,0,none⟩) xs.length xs.length)) (W.alloc (.cells inner.toArray e)))
  (hrep:Reps (FK d W okp) d.sz xs inner) (hok:∀ k,okp k→ok k) (hfresh:ok W.heap.size) (HB:Below base w0 W) (hbase:base≤W.heap.size) (hm:xs.length≤9223372036854775807)
  (h:∀ v1 w1,N d e w1 base ok v1 xs→Below base w0 w1→W.grownBy w1 none→(∃ b,v1.ownBlock=some b∧W.heap.size≤b)→Kc (a.put o.dst v1) w1) :
  if Region.wanted o (yielded ops a.tmps)=true then Oper.wp P o a W Kc Q else Kc (a.put o.dst undef) W:=by
 refine R_lit_step (raw d.sz) base e hw _hd (xs:=chunks d.sz xs.length inner) (inner:=inner) (ok:=fun k=>k=W.heap.size) (okp:=fun _=>False) (by rw [chunks_length];exact hrun) (reps_raw hrep (fun y c hk=>⟨d.K_len (FK_now hk),d.K_one (FK_now hk)⟩)) (fun _ hk=>hk.elim) rfl HB hbase (by rw [chunks_length];exact hm) ?_
 intro v1 w1 hr hb hg hat
 exact h v1 w1 (N_made hr hg hat (chunks_length _ _ _) (fun j y c hy hc=>by rw [chunks_get hc];exact hrep.2 j y hy) hok hfresh) hb hg hat
end
end Kd
end Go.Proofs.YtlpfmhikahlcoaaW.PrintWords
namespace Go.Proofs.YtlpfmhikahlcoaaW.PrintMore
open Go.RowKit Go.Proofs.YtlpfmhikahlcoaaW.PrintWords
namespace Kd
open Go.Proofs.YtlpfmhikahlcoaaW.PrintWords.Kd
end Kd
namespace Kd
open Go.Proofs.YtlpfmhikahlcoaaW.PrintWords.Kd
section
variable {α:Type} {d:Kd α} {e base g N:Nat} {ok:Nat→Prop} {W w1:World} {u v:Value} {xs:List α}
end
end Kd
theorem max2_int (k k':IntKind) (x y:Int):Builtin.max2 (.int k x) (.int k' y)=pure (.int k (if x < y then y else x)):=by simp only [Builtin.max2,gt_iff_lt]
theorem min2_int (k k':IntKind) (x y:Int):Builtin.min2 (.int k x) (.int k' y)=pure (.int k (if y < x then y else x)):=by simp only [Builtin.min2]
theorem max_two (ats:Array TypeId) (ty:TypeId) (a b:Value):Builtin.max_ ats ty #[a,b]=(Builtin.max2 a b >>= fun s=>pure s):=by simp only [Builtin.max_,List.foldlM_cons,List.foldlM_nil]
theorem min_two (ats:Array TypeId) (ty:TypeId) (a b:Value):Builtin.min_ ats ty #[a,b]=(Builtin.min2 a b >>= fun s=>pure s):=by simp only [Builtin.min_,List.foldlM_cons,List.foldlM_nil]
theorem max_three (ats:Array TypeId) (ty:TypeId) (a b c:Value):Builtin.max_ ats ty #[a,b,c]=(Builtin.max2 a b >>= fun s=>Builtin.max2 s c >>= fun s=>pure s):=by simp only [Builtin.max_,List.foldlM_cons,List.foldlM_nil]
theorem min_three (ats:Array TypeId) (ty:TypeId) (a b c:Value):Builtin.min_ ats ty #[a,b,c]=(Builtin.min2 a b >>= fun s=>Builtin.min2 s c >>= fun s=>pure s):=by simp only [Builtin.min_,List.foldlM_cons,List.foldlM_nil]
theorem max_four (ats:Array TypeId) (ty:TypeId) (a b c d:Value):Builtin.max_ ats ty #[a,b,c,d]=(Builtin.max2 a b >>= fun s=>Builtin.max2 s c >>= fun s=>Builtin.max2 s d >>= fun s=>pure s):=by simp only [Builtin.max_,List.foldlM_cons,List.foldlM_nil]
theorem min_four (ats:Array TypeId) (ty:TypeId) (a b c d:Value):Builtin.min_ ats ty #[a,b,c,d]=(Builtin.min2 a b >>= fun s=>Builtin.min2 s c >>= fun s=>Builtin.min2 s d >>= fun s=>pure s):=by simp only [Builtin.min_,List.foldlM_cons,List.foldlM_nil]
end Go.Proofs.YtlpfmhikahlcoaaW.PrintMore
namespace Go.Proofs.YtlpfmhikahlcoaaW.PrintWords
open Go.RowKit
section
variable {P:Program} {ops:Array Oper} {rest:List Oper} {o:Oper} {a:Act} {Q:Exit→Act→World→Prop} {W:World}
theorem gate_callee {f:FuncId} {as_:Array Operand} {ts:Array TypeId} (_ho:o.op = .call { callee := .value (.func f),args:=as_,argTypes:=ts }) (h:wpList P ops Q (o :: rest) a W):wpList P ops Q (o :: rest) a W:=h
theorem gate_builtin {b:Builtin} {xs:Array Operand} {ts:Array TypeId} (_ho:o.op = .call { callee := .builtin b,args:=xs,argTypes:=ts }) (h:wpList P ops Q (o :: rest) a W):wpList P ops Q (o :: rest) a W:=h
end
def shl (k:IntKind) (x y:Int):Int:=k.wrap (x * 2 ^ min y.toNat k.bits)
theorem shl_small {k:IntKind} {x y j:Int} (h:shl k x y=j) (hy:y≤k.bits):k.wrap (x * 2 ^ y.toNat)=j:=by rw [← h];unfold shl;rw [Nat.min_eq_left (by omega)]
theorem drewN_self (w:World) (n:Nat):w.drewN n=w.drewN n:=rfl
namespace Kd
section
variable {α:Type} {d:Kd α} {e base:Nat} {ok:Nat→Prop} {W w1:World} {v:Value} {xs:List α}
end
section
variable {α:Type} {d:Kd α} {e base g n cap:Nat} {ok oki okp:Nat→Prop} {W:World} {xs:List α} {i:Int} {c:List Value}
end
section
variable {α:Type} {d:Kd α} {e base b b' g N:Nat} {ok ok1:Nat→Prop} {W W2 w1:World} {u v:Value} {xs ys:List α} {S:Nat→Prop}
end
end Kd
end Go.Proofs.YtlpfmhikahlcoaaW.PrintWords
namespace Go.Proofs.YtlpfmhikahlcoaaW.PrintWords
open Go.RowKit
namespace Kd
def V {α:Type} (d:Kd α) (_e:Nat) (W:World) (_base:Nat) (ok:Nat→Prop) (v:Value) (xs:List α):Prop:=∃ A c,v = .slice A xs.length c∧xs.length≤c∧F d W ok A xs.length xs
section
variable {α β:Type} {d:Kd α} {e base base' n m c g N' lo hi:Nat} {ok ok' S:Nat→Prop} {w W w1:World} {A:Option Addr} {ad:Addr} {u v v1:Value} {xs:List α}
theorem N_afterv (h:N d e W base (fun k=>ok k∧some k≠v.ownBlock) u xs) (hg:W.grownBy w1 v.ownBlock) (hat:v1.ownBlock=v.ownBlock∨∃ b,v1.ownBlock=some b∧W.heap.size≤b):N d e w1 base (fun k=>ok k∧some k≠v1.ownBlock) u xs:=N_after h hg hat
theorem F_take (h:F d W ok A xs.length xs) (hm:m≤xs.length):F d W ok A (xs.take m).length (xs.take m):=F_imp h (fun _ hC=>C_take hC hm)
theorem F_cut (h:F d W ok A xs.length xs) (hm:m≤xs.length) (hc:xs.length≤c):F d W ok (if c=m then A else A.map (·.add (m * d.sz))) (xs.drop m).length (xs.drop m):=F_imp h (fun _ hC=>C_drop hC hm hc)
theorem R_newM {M:Nat→Prop} (h:d.R e w1 W.heap.size ok v xs) (hle:w.heap.size≤W.heap.size) (hM:∀ k,w.heap.size≤k→M k):d.R e w1 W.heap.size (fun k=>M k∧ok k) v xs:=R_mono (R_bound h) (fun k hk=>⟨hM k (Nat.le_trans hle hk.2.1),hk.1⟩)
end
end Kd
end Go.Proofs.YtlpfmhikahlcoaaW.PrintWords
namespace Go.Proofs.YtlpfmhikahlcoaaW.PrintWords
open Go.RowKit
section
variable {P:Program} {ops:Array Oper} {rest:List Oper} {o:Oper} {a:Act} {Q:Exit→Act→World→Prop} {W:World}
theorem gate_guard (hw:Region.wanted o (yielded ops a.tmps)=true) (h:wpList P ops Q ({ o with guard:=none } :: rest) a W):wpList P ops Q (o :: rest) a W:=by
 have h1:Region.wanted { o with guard:=none } (yielded ops a.tmps)=true:=rfl
 unfold wpList at h ⊢
 rw [if_pos h1] at h
 rw [if_pos hw]
 exact h
end
end Go.Proofs.YtlpfmhikahlcoaaW.PrintWords
namespace Go.Proofs.Ytlpfmhikahlcoaa.Sh
open Go.RowKit Go.Proofs.YtlpfmhikahlcoaaW.PrintWords Go.Proofs.YtlpfmhikahlcoaaW.PrintLast Go.Proofs.YtlpfmhikahlcoaaW.PrintMore
theorem bb {W0 W w':World} {g:Nat} {o:Obj} (h:Aside0 (W0.heap[g]? = some o)) (hb:Below W.heap.size W w')
  (e:W0.heap[g]? = some o→W.heap[g]? = some o:=by first|(with_reducible exact id)|(intro h_;(with_reducible repeat (first|refine blk_drewN ?_ _|refine blk_drew ?_|refine blk_alloc ?_ _));first|(with_reducible exact h_)|exact h_)):Aside0 (w'.heap[g]? = some o):=⟨blk_below (e h.out) hb⟩
theorem nl {W0 W:World} {g g':Nat} {o:Obj} (hg:g'=W.heap.size) (h:Aside0 (W0.heap[g]? = some o))
  (e:W0.heap[g]? = some o→W.heap[g]? = some o:=by first|(with_reducible exact id)|(intro h_;(with_reducible repeat (first|refine blk_drewN ?_ _|refine blk_drew ?_|refine blk_alloc ?_ _));first|(with_reducible exact h_)|exact h_)):Aside0 (g≠g'):=⟨by rw [hg];exact Nat.ne_of_lt (blk_lt (e h.out))⟩
theorem ng {W0 W:World} {g g':Nat} {o:Obj} (hg:g'=W.heap.size) (h:Aside0 (W0.heap[g]? = some o))
  (e:W0.heap[g]? = some o→W.heap[g]? = some o:=by first|(with_reducible exact id)|(intro h_;(with_reducible repeat (first|refine blk_drewN ?_ _|refine blk_drew ?_|refine blk_alloc ?_ _));first|(with_reducible exact h_)|exact h_)):Aside0 (g'≠g):=⟨by rw [hg];exact Nat.ne_of_gt (blk_lt (e h.out))⟩
theorem dr {W0 W:World} {g:Nat} {o:Obj} (h:Aside0 (W0.heap[g]? = some o))
  (e:W0.heap[g]? = some o→W.heap[g]? = some o:=by first|(with_reducible exact id)|(intro h_;(with_reducible repeat (first|refine blk_drewN ?_ _|refine blk_drew ?_|refine blk_alloc ?_ _));first|(with_reducible exact h_)|exact h_)):W.heap[g]? = some o:=e h.out
theorem bz0 {w W0 W:World} {g':Nat} (hg:g'=W.heap.size) (h:Aside0 (Below w.heap.size w W0))
  (e:Below w.heap.size w W0→Below w.heap.size w W:=by intro h_;repeat (first|(with_reducible exact h_)|(with_reducible apply below_alloc)|(with_reducible apply pw_below_drewN)|(with_reducible apply below_drew1)|exact h_)):Aside0 (w.heap.size≤g'):=⟨by rw [hg];exact below_size (e h.out)⟩
theorem bs0 {w W0 W w':World} (h:Aside0 (Below w.heap.size w W0)) (hb:Below W.heap.size W w')
  (e:Below w.heap.size w W0→Below w.heap.size w W:=by intro h_;repeat (first|(with_reducible exact h_)|(with_reducible apply below_alloc)|(with_reducible apply pw_below_drewN)|(with_reducible apply below_drew1)|exact h_)):Aside0 (Below w.heap.size w w'):=⟨below_step (e h.out) hb⟩
theorem bz1 {w W0 W:World} {g':Nat} {x0:Nat} (hg:g'=W.heap.size) (h:Aside0 (Below w.heap.size w W0)) (g0:Aside0 (w.heap.size≤x0))
  (e:w.heap.size≤x0→Below w.heap.size w W0→Below w.heap.size w W:=by intro g0_ h_;repeat (first|(with_reducible exact h_)|(with_reducible apply below_alloc)|(with_reducible apply pw_below_drewN)|(with_reducible apply below_drew1)|(with_reducible refine below_set ?_ g0_)|exact h_)):Aside0 (w.heap.size≤g'):=⟨by rw [hg];exact below_size (e g0.out h.out)⟩
theorem bs1 {w W0 W w':World} {x0:Nat} (h:Aside0 (Below w.heap.size w W0)) (hb:Below W.heap.size W w') (g0:Aside0 (w.heap.size≤x0))
  (e:w.heap.size≤x0→Below w.heap.size w W0→Below w.heap.size w W:=by intro g0_ h_;repeat (first|(with_reducible exact h_)|(with_reducible apply below_alloc)|(with_reducible apply pw_below_drewN)|(with_reducible apply below_drew1)|(with_reducible refine below_set ?_ g0_)|exact h_)):Aside0 (Below w.heap.size w w'):=⟨below_step (e g0.out h.out) hb⟩
theorem bz2 {w W0 W:World} {g':Nat} {x0 x1:Nat} (hg:g'=W.heap.size) (h:Aside0 (Below w.heap.size w W0)) (g0:Aside0 (w.heap.size≤x0)) (g1:Aside0 (w.heap.size≤x1))
  (e:w.heap.size≤x0→w.heap.size≤x1→Below w.heap.size w W0→Below w.heap.size w W:=by intro g0_ g1_ h_;repeat (first|(with_reducible exact h_)|(with_reducible apply below_alloc)|(with_reducible apply pw_below_drewN)|(with_reducible apply below_drew1)|(with_reducible refine below_set ?_ g0_)|(with_reducible refine below_set ?_ g1_)|exact h_)):Aside0 (w.heap.size≤g'):=⟨by rw [hg];exact below_size (e g0.out g1.out h.out)⟩
theorem bs2 {w W0 W w':World} {x0 x1:Nat} (h:Aside0 (Below w.heap.size w W0)) (hb:Below W.heap.size W w') (g0:Aside0 (w.heap.size≤x0)) (g1:Aside0 (w.heap.size≤x1))
  (e:w.heap.size≤x0→w.heap.size≤x1→Below w.heap.size w W0→Below w.heap.size w W:=by intro g0_ g1_ h_;repeat (first|(with_reducible exact h_)|(with_reducible apply below_alloc)|(with_reducible apply pw_below_drewN)|(with_reducible apply below_drew1)|(with_reducible refine below_set ?_ g0_)|(with_reducible refine below_set ?_ g1_)|exact h_)):Aside0 (Below w.heap.size w w'):=⟨below_step (e g0.out g1.out h.out) hb⟩
theorem bz3 {w W0 W:World} {g':Nat} {x0 x1 x2:Nat} (hg:g'=W.heap.size) (h:Aside0 (Below w.heap.size w W0)) (g0:Aside0 (w.heap.size≤x0)) (g1:Aside0 (w.heap.size≤x1)) (g2:Aside0 (w.heap.size≤x2))
  (e:w.heap.size≤x0→w.heap.size≤x1→w.heap.size≤x2→Below w.heap.size w W0→Below w.heap.size w W:=by intro g0_ g1_ g2_ h_;repeat (first|(with_reducible exact h_)|(with_reducible apply below_alloc)|(with_reducible apply pw_below_drewN)|(with_reducible apply below_drew1)|(with_reducible refine below_set ?_ g0_)|(with_reducible refine below_set ?_ g1_)|(with_reducible refine below_set ?_ g2_)|exact h_)):Aside0 (w.heap.size≤g'):=⟨by rw [hg];exact below_size (e g0.out g1.out g2.out h.out)⟩
theorem bs3 {w W0 W w':World} {x0 x1 x2:Nat} (h:Aside0 (Below w.heap.size w W0)) (hb:Below W.heap.size W w') (g0:Aside0 (w.heap.size≤x0)) (g1:Aside0 (w.heap.size≤x1)) (g2:Aside0 (w.heap.size≤x2))
  (e:w.heap.size≤x0→w.heap.size≤x1→w.heap.size≤x2→Below w.heap.size w W0→Below w.heap.size w W:=by intro g0_ g1_ g2_ h_;repeat (first|(with_reducible exact h_)|(with_reducible apply below_alloc)|(with_reducible apply pw_below_drewN)|(with_reducible apply below_drew1)|(with_reducible refine below_set ?_ g0_)|(with_reducible refine below_set ?_ g1_)|(with_reducible refine below_set ?_ g2_)|exact h_)):Aside0 (Below w.heap.size w w'):=⟨below_step (e g0.out g1.out g2.out h.out) hb⟩
theorem bz4 {w W0 W:World} {g':Nat} {x0 x1 x2 x3:Nat} (hg:g'=W.heap.size) (h:Aside0 (Below w.heap.size w W0)) (g0:Aside0 (w.heap.size≤x0)) (g1:Aside0 (w.heap.size≤x1)) (g2:Aside0 (w.heap.size≤x2)) (g3:Aside0 (w.heap.size≤x3))
  (e:w.heap.size≤x0→w.heap.size≤x1→w.heap.size≤x2→w.heap.size≤x3→Below w.heap.size w W0→Below w.heap.size w W:=by intro g0_ g1_ g2_ g3_ h_;repeat (first|(with_reducible exact h_)|(with_reducible apply below_alloc)|(with_reducible apply pw_below_drewN)|(with_reducible apply below_drew1)|(with_reducible refine below_set ?_ g0_)|(with_reducible refine below_set ?_ g1_)|(with_reducible refine below_set ?_ g2_)|(with_reducible refine below_set ?_ g3_)|exact h_)):Aside0 (w.heap.size≤g'):=⟨by rw [hg];exact below_size (e g0.out g1.out g2.out g3.out h.out)⟩
theorem bs4 {w W0 W w':World} {x0 x1 x2 x3:Nat} (h:Aside0 (Below w.heap.size w W0)) (hb:Below W.heap.size W w') (g0:Aside0 (w.heap.size≤x0)) (g1:Aside0 (w.heap.size≤x1)) (g2:Aside0 (w.heap.size≤x2)) (g3:Aside0 (w.heap.size≤x3))
  (e:w.heap.size≤x0→w.heap.size≤x1→w.heap.size≤x2→w.heap.size≤x3→Below w.heap.size w W0→Below w.heap.size w W:=by intro g0_ g1_ g2_ g3_ h_;repeat (first|(with_reducible exact h_)|(with_reducible apply below_alloc)|(with_reducible apply pw_below_drewN)|(with_reducible apply below_drew1)|(with_reducible refine below_set ?_ g0_)|(with_reducible refine below_set ?_ g1_)|(with_reducible refine below_set ?_ g2_)|(with_reducible refine below_set ?_ g3_)|exact h_)):Aside0 (Below w.heap.size w w'):=⟨below_step (e g0.out g1.out g2.out g3.out h.out) hb⟩
theorem dq {W0 W:World} {g g':Nat} {o:Obj} (h:Aside0 (W0.heap[g]? = some o)) (n:Aside0 (g≠g'))
  (e:g≠g'→W0.heap[g]? = some o→W.heap[g]? = some o:=by (intro n_ h_;repeat (first|(with_reducible exact h_)|(with_reducible refine blk_drewN ?_ _)|(with_reducible refine blk_drew ?_)|(with_reducible refine blk_alloc ?_ _)|refine blk_far ?_ n_ _|exact h_))):W.heap[g]? = some o:=e n.out h.out
theorem bp2 {w:World} {g:Nat} {t:TypeId} {x0 x1 u0 u1:Value} (h:w.heap[g]? = some (.cells #[x0,x1] t (0,0))):((w.setCell ⟨g,0,none⟩ u0).setCell ⟨g,1,none⟩ u1).heap[g]? = some (.cells #[u0,u1] t (0,0)):=(blk_put (cs:=#[u0,x1]) (blk_put (cs:=#[x0,x1]) h 0 u0 rfl) 1 u1 rfl)
section
variable {α:Type} {d:Kd α} {e base t g:Nat} {W0 W w':World} {ok:Nat→Prop} {v:Value} {xs:List α} {cs:Array Value}
theorem rf (h:Aside0 (d.R e W0 base ok v xs)) (hb:Aside0 (W0.heap[g]? = some (.cells cs t (0,0)))) (ht:∀ q,q∈e :: d.E→q≠t:=by decide)
  (s:d.R e W0 base (fun k=>ok k∧k≠g) v xs→d.R e W base (fun k=>ok k∧k≠g) v xs:=by (intro h_;repeat (first|(with_reducible exact h_)|refine Kd.R_far ?_ (fun _ hk=>hk.2) _))):d.R e W base ok v xs:=Kd.R_mono (s (Kd.R_types h.out hb.out ht)) (fun _ h_=>h_.1)
theorem rb (h:Aside0 (d.R e W0 base ok v xs)) (hb:Below W.heap.size W w')
  (s:d.R e W0 base ok v xs→d.R e W base ok v xs:=by first|(with_reducible exact id)|(intro h_;(with_reducible repeat (first|apply Kd.R_alloc|apply Kd.R_drewN|apply Kd.R_drew));first|(with_reducible exact h_)|exact h_)):Aside0 (d.R e w' base ok v xs):=⟨Kd.R_below (s h.out) hb⟩
theorem rbf (h:Aside0 (d.R e W0 base ok v xs)) (h2:Aside0 (W0.heap[g]? = some (.cells cs t (0,0)))) (hb:Below W.heap.size W w') (ht:∀ q,q∈e :: d.E→q≠t:=by decide)
  (s:d.R e W0 base (fun k=>ok k∧k≠g) v xs→d.R e W base (fun k=>ok k∧k≠g) v xs:=by (intro h_;repeat (first|(with_reducible exact h_)|(with_reducible apply Kd.R_alloc)|(with_reducible apply Kd.R_drewN)|(with_reducible apply Kd.R_drew)|refine Kd.R_far ?_ (fun _ hk=>hk.2) _))):Aside0 (d.R e w' base ok v xs):=⟨Kd.R_below (Kd.R_mono (s (Kd.R_types h.out h2.out ht)) (fun _ h_=>h_.1)) hb⟩
theorem re (h:Aside0 (d.R e W0 base ok v xs)) {u:Value} (hu:∀ k,u.ownBlock=some k→W.heap.size≤k) (hb:Below W.heap.size W w')
  (s:d.R e W0 base ok v xs→d.R e W base ok v xs:=by first|(with_reducible exact id)|(intro h_;(with_reducible repeat (first|apply Kd.R_alloc|apply Kd.R_drewN|apply Kd.R_drew));first|(with_reducible exact h_)|exact h_)):Aside0 (d.R e w' base (fun k=>ok k∧some k≠u.ownBlock) v xs):=⟨Kd.R_elder' (s h.out) hu hb⟩
end
theorem tb {b:Nat} {w W w':World} (hb:Aside0 (Below b w W)) (h:Below b w W→Below b w w':=by intro h_;repeat (first|(with_reducible first|exact h_|apply below_alloc|apply pw_below_drewN|apply below_drew1|refine below_set ?_ (Aside0.out (by assumption)))|exact h_)):Below b w w':=h hb.out
theorem tp {w W0 W:World} {g:Nat} {r:Option Nat} (hk:Aside0 (KeepBut w W0 g r)) (h:KeepBut w W0 g r→KeepBut w W g r:=by intro h_;repeat (first|(with_reducible first|exact h_|apply KeepBut.set_|apply keep_drewN|apply keep_drew|apply keep_alloc|refine keep_far ?_ (Aside0.out (by assumption)) _)|exact h_)):KeepBut w W g r:=h hk.out
theorem f_ {w:World} {g:Nat} {t:TypeId} {cs:Array Value} (h:Aside0 (w.heap[g]? = some (.cells cs t (0,0)))):∀ i,w.frozen? ⟨g,i,none⟩=false:=fun i=>blk_frozen h.out i
theorem c2_ {w:World} {g:Nat} {t:TypeId} {x0 x1:Value} (h:Aside0 (w.heap[g]? = some (.cells #[x0,x1] t (0,0)))):w.cell? ⟨g,0,none⟩=some x0∧w.cell? ⟨g,1,none⟩=some x1:=⟨(blk_cell h.out 0).trans rfl,(blk_cell h.out 1).trans rfl⟩
theorem c7_ {w:World} {g:Nat} {t:TypeId} {x0 x1 x2 x3 x4 x5 x6:Value} (h:Aside0 (w.heap[g]? = some (.cells #[x0,x1,x2,x3,x4,x5,x6] t (0,0)))):w.cell? ⟨g,0,none⟩=some x0∧w.cell? ⟨g,1,none⟩=some x1∧w.cell? ⟨g,2,none⟩=some x2∧w.cell? ⟨g,3,none⟩=some x3∧w.cell? ⟨g,4,none⟩=some x4∧w.cell? ⟨g,5,none⟩=some x5∧w.cell? ⟨g,6,none⟩=some x6:=⟨(blk_cell h.out 0).trans rfl,(blk_cell h.out 1).trans rfl,(blk_cell h.out 2).trans rfl,(blk_cell h.out 3).trans rfl,(blk_cell h.out 4).trans rfl,(blk_cell h.out 5).trans rfl,(blk_cell h.out 6).trans rfl⟩
section
variable {α:Type} {d:Kd α} {e base:Nat} {W0 W:World} {ok:Nat→Prop} {v:Value} {xs:List α}
theorem ra (h:Aside0 (d.R e W0 base ok v xs)) (s:d.R e W0 base ok v xs→d.R e W base ok v xs:=by first|(with_reducible exact id)|(intro h_;(with_reducible repeat (first|apply Kd.R_alloc|apply Kd.R_drewN|apply Kd.R_drew));first|(with_reducible exact h_)|exact h_)):d.R e W base ok v xs:=s h.out
theorem rfs {base0:Nat} (h:d.R e W0 base0 ok v xs) (s:d.R e W0 base0 ok v xs→d.R e W base0 ok v xs:=by (intro h_;(with_reducible repeat (first|apply Kd.R_alloc|apply Kd.R_drewN|apply Kd.R_drew));repeat (first|(with_reducible exact h_)|(with_reducible first|apply Kd.R_alloc|apply Kd.R_drewN|apply Kd.R_drew)|refine Kd.R_far ?_ (by first|exact (fun _ hk=>hk.2)|exact (fun _ hk=>hk.1.2)) _|exact h_))):d.R e W base0 (fun _=>True) v xs:=Kd.R_mono (s h) (fun _ _=>trivial)
end
theorem er {p:Prop} (h:p:=by first|rfl|(simp [errW_none,errW_some] <;> rfl)|(simp [*,errW_none,errW_some] <;> rfl)):p:=h
theorem od {p:Prop} [Decidable p] (h:decide p=true:=by first|(with_reducible assumption)|assumption):p:=of_decide_eq_true h
theorem dd {p:Prop} (h:p:=by first|exact ⟨rfl,_,World.drewN_drewN _ _ _⟩|exact ⟨rfl,_,Eq.trans (World.drewN_drewN _ _ _) (congrArg (World.drewN _) (Nat.add_assoc _ _ _))⟩):p:=h
theorem ml {p:Prop} (h:p:=by (try simp only [List.map_toArray,List.map_cons,List.map_nil]);first|done|rfl|(simp only [List.length_drop,List.length_take];rfl)):p:=h
theorem cw {α:Type} {d:Kd α} {A:Option Addr} {n:Nat} {xs:List α} {W0 W:World} (h:d.C W0 A n xs) (s:d.C W0 A n xs→d.C W A n xs:=by (intro h_;repeat (first|exact h_|(with_reducible refine Kd.C_alloc ?_ _)|(with_reducible refine Kd.C_drewN ?_ _)|(with_reducible refine Kd.C_drew ?_)))):d.C W A n xs:=s h
theorem bx {P:Program} {ops:Array Oper} {rest:List Oper} {o:Oper} {a:Act} {Q:Exit→Act→World→Prop} {W:World} {N:Tmp} {cs:Array Value} {t:TypeId}
  (h:∀ g,g=W.heap.size→∀ w1,w1.heap[g]? = some (.cells cs t (0,0))→Below W.heap.size W w1→wpList P ops Q rest (a.put o.dst (.pointer (some ⟨g,0,none⟩))) w1)
  (hgd:o.guard=none:=by rfl) (hd:o.dst=some N:=by rfl)
  (hrun:(execOp a.eval o).run P W = .ok (.value (.pointer (some ⟨W.heap.size,0,none⟩))) (W.alloc (.cells cs t (0,0))):=by first|(go_simp;done)|(go_simp;rfl)):wpList P ops Q (o :: rest) a W:=box_event hgd hd hrun h
theorem ct {w W W':World} {p:Addr} {v:Value} (hb:Aside0 (Below w.heap.size W W')) (h:w.cell? p=some v) (e:w.cell? p=W.cell? p:=by rfl):W'.cell? p=some v:=(hb.out.cell (World.block_lt_of_cell? w _ h)).trans (e.symm.trans h)
theorem e1 {p:Prop} (h:p:=by first|rfl|(simp;done)|(simp [*];done)):p:=h
theorem dn {p:Prop} (h:p:=by repeat (first|exact Drawn0.refl _|apply Drawn0.step)):p:=h
theorem os {α:Type} {a b:α} (h:some a=some b):a=b:=Option.some.inj h
theorem ob {α β:Type} {x:Option α} {f:α→Option β} {b:β} (h:x.bind f=some b):∃ a,x=some a∧f a=some b:=Option.bind_eq_some_iff.1 h
abbrev tf (k m:Nat):Array Bool:=(List.replicate k true ++ List.replicate m false).toArray
theorem s1 {α:Type} (l:List α) (i:Nat) (a:α):l.toArray.setIfInBounds i a=(l.set i a).toArray:=by simp
theorem s2 {α:Type} (x:α) (l:List α) (a:α):(x :: l).set 0 a=a :: l:=rfl
theorem s3 {α:Type} (x:α) (l:List α) (n:Nat) (a:α):(x :: l).set (n + 1) a=x :: l.set n a:=rfl
end Go.Proofs.Ytlpfmhikahlcoaa.Sh
namespace Go.Proofs.YtlpfmhikahlcoaaW.PrintLast
open Go.Proofs.YtlpfmhikahlcoaaW.PrintWords (Aside0)
def needsOf (md:Region.Mode) (o:Oper):List Nat:=(o.after.toList.filter (fun e=>Region.binds md e)).map (fun e=>e.on)
def clashOf (md:Region.Mode) (ops:Array Oper) (i:Nat) (oi:Oper):List Nat:=(List.range ops.size).filter fun j => !(j == i) && match ops[j]? with
 | some oj => !(oj.after.any (fun e=>Region.binds md e && e.on == i) || oi.apart ops oj)
 | none=>false
def rtab (md:Region.Mode) (ops:Array Oper):Bool × List (List Nat × List Nat):=(Region.noSelect ops,(List.range ops.size).map fun i=>match ops[i]? with
 | some o=>(needsOf md o,clashOf md ops i o)
 | none=>([],[]))
def readyAt (T:List (List Nat × List Nat)) (l:List Bool) (i:Nat):Bool := !l.getD i true && match T[i]? with
 | some r=>r.1.all (fun j=>l.getD j false)
 | none=>false
def readyT (T:List (List Nat × List Nat)) (l:List Bool):List Nat:=(List.range T.length).filter (readyAt T l)
def freeT (T:List (List Nat × List Nat)) (l:List Bool) (i:Nat):Bool:=match T[i]? with
 | some r=>r.2.all (fun j=>l.getD j true)
 | none=>false
def closedT (T:List (List Nat × List Nat)) (l:List Bool):Bool:=(List.range T.length).all fun j => !l.getD j false || match T[j]? with
 | some r=>r.1.all (fun k=>l.getD k false)
 | none=>true
def reachT (T:List (List Nat × List Nat)) (i:Nat):Nat→Nat→Bool
 | 0,_=>false
 | fuel + 1,d=>match T[d]? with
  | some r=>r.1.any fun j=>j == i || reachT T i fuel j
  | none=>false
def lastT (T:List (List Nat × List Nat)) (l:List Bool) (ds:List Nat) (i:Nat):Bool:=ds.all fun d=>l.getD d true || reachT T i T.length d
section
variable {md:Region.Mode} {ops:Array Oper} {T:Bool × List (List Nat × List Nat)} {l l' li lj lk:Array Bool} {ds:List Nat} {i j k:Nat}
theorem gd (l:Array Bool) (j:Nat) (b:Bool):l.getD j b=l.toList.getD j b:=by simp [Array.getD_eq_getD_getElem?,List.getD_eq_getElem?_getD]
theorem needs_all (o:Oper) (p:Nat→Bool):o.after.all (fun e => !Region.binds md e || p e.on)=(needsOf md o).all p:=by
 unfold needsOf
 rw [← Array.all_toList]
 induction o.after.toList with
 | nil=>rfl
 | cons e r ih =>
  rw [List.all_cons,ih,List.filter_cons]
  cases h:Region.binds md e <;> simp
theorem needs_any (o:Oper) (p:Nat→Bool):o.after.any (fun e=>Region.binds md e && p e.on)=(needsOf md o).any p:=by
 unfold needsOf
 rw [← Array.any_toList]
 induction o.after.toList with
 | nil=>rfl
 | cons e r ih =>
  rw [List.any_cons,ih,List.filter_cons]
  cases h:Region.binds md e <;> simp
theorem rtab_length:(rtab md ops).2.length=ops.size:=by simp [rtab]
theorem rtab_some {o:Oper} (h:ops[i]? = some o):(rtab md ops).2[i]? = some (needsOf md o,clashOf md ops i o):=by
 have hi:=(Array.getElem?_eq_some_iff.1 h).1
 unfold rtab
 rw [List.getElem?_map,List.getElem?_range hi,Option.map_some,h]
theorem rtab_none (h:ops[i]? = none):(rtab md ops).2[i]? = none:=by
 have hi:ops.size≤i:=Array.getElem?_eq_none_iff.1 h
 exact List.getElem?_eq_none (by rw [rtab_length];exact hi)
theorem readyAt_eq:readyAt (rtab md ops).2 l.toList i=(!l.getD i true && ((ops[i]?).map (·.after.all fun e => !Region.binds md e || l.getD e.on false)).getD false):=by
 unfold readyAt
 rw [gd]
 cases h:ops[i]? with
 | none=>rw [rtab_none h];rfl
 | some o =>
  rw [rtab_some h]
  simp only [Option.map_some,Option.getD_some]
  rw [← needs_all]
  simp only [gd]
theorem ready_eq:Region.ready md ops l=readyT (rtab md ops).2 l.toList:=by
 unfold Region.ready readyT
 rw [rtab_length]
 refine List.filter_congr (fun i _=>?_)
 rw [readyAt_eq]
theorem free_eq:Region.free md ops l i=freeT (rtab md ops).2 l.toList i:=by
 unfold Region.free freeT
 cases h:ops[i]? with
 | none=>rw [rtab_none h]
 | some oi =>
  rw [rtab_some h]
  simp only [clashOf]
  rw [List.all_filter]
  congr 1
  funext j
  rw [gd]
  cases hj:ops[j]? with
  | none=>cases (j == i) <;> cases (l.toList.getD j true) <;> simp
  | some oj =>
   cases (j == i) <;> cases (l.toList.getD j true) <;> cases (oj.after.any (fun e=>Region.binds md e && e.on == i) || oi.apart ops oj) <;> simp_all
theorem closed_eq:Region.closedB md ops l=closedT (rtab md ops).2 l.toList:=by
 unfold Region.closedB closedT
 rw [rtab_length]
 congr 1
 funext j
 rw [gd]
 cases h:ops[j]? with
 | none=>rw [rtab_none h]
 | some o =>
  rw [rtab_some h]
  simp only
  rw [← needs_all]
  simp only [gd]
theorem reach_eq:∀ (fuel d:Nat),Region.reachB md ops i fuel d=reachT (rtab md ops).2 i fuel d
 | 0,_=>rfl
 | fuel + 1,d=>by
  unfold Region.reachB reachT
  cases h:ops[d]? with
  | none=>rw [rtab_none h]
  | some o =>
   rw [rtab_some h]
   simp only
   rw [← needs_any]
   congr 1
   funext e
   rw [reach_eq fuel]
theorem last_eq:Region.lastB md ops l ds i=lastT (rtab md ops).2 l.toList ds i:=by
 unfold Region.lastB lastT
 rw [rtab_length]
 congr 1
 funext d
 rw [gd,reach_eq]
theorem readyAt_mem (h:readyAt T.2 l.toList i=true) (hT:rtab md ops=T):(Region.ready md ops l).contains i=true:=by
 subst hT
 rw [ready_eq]
 unfold readyT
 rw [List.contains_iff_mem,List.mem_filter,List.mem_range]
 refine ⟨?_,h⟩
 unfold readyAt at h
 rw [Bool.and_eq_true] at h
 cases hq:(rtab md ops).2[i]? with
 | none=>rw [hq] at h;simp at h
 | some r=>exact (List.getElem?_eq_some_iff.1 hq).1
theorem set_of (h:(l.toList.set i true == l'.toList)=true):(l.setIfInBounds i true == l')=true:=by
 rw [beq_iff_eq] at h ⊢
 apply Array.ext'
 rw [Array.toList_setIfInBounds]
 exact h
def anyT (T:Bool × List (List Nat × List Nat)) (l l':List Bool) (i:Nat):Bool:=T.1 && freeT T.2 l i && readyAt T.2 l i && (l.set i true == l')
theorem any_of (hT:rtab md ops=T) (h:anyT T l.toList l'.toList i=true):anyB md ops l l' i=true:=by
 simp only [anyT,Bool.and_eq_true] at h
 obtain ⟨⟨⟨h1,h2⟩,h3⟩,h4⟩:=h
 have h5:=readyAt_mem h3 hT
 have h6:=set_of h4
 subst hT
 simp only [anyB,Bool.and_eq_true]
 exact ⟨⟨⟨h1,by rw [free_eq];exact h2⟩,h5⟩,h6⟩
def takeT (T:Bool × List (List Nat × List Nat)) (ds:List Nat) (l l':List Bool) (i:Nat):Bool:=T.1 && freeT T.2 l i && readyAt T.2 l i && closedT T.2 l && lastT T.2 l ds i && (l.set i true == l')
theorem take_of (hT:rtab md ops=T) (h:takeT T ds l.toList l'.toList i=true):takeB md ops ds l l' i=true:=by
 simp only [takeT,Bool.and_eq_true] at h
 obtain ⟨⟨⟨⟨⟨h1,h2⟩,h3⟩,h4⟩,h5⟩,h6⟩:=h
 have h7:=readyAt_mem h3 hT
 have h8:=set_of h6
 subst hT
 simp only [takeB,Bool.and_eq_true]
 exact ⟨⟨⟨⟨⟨h1,by rw [free_eq];exact h2⟩,h7⟩,by rw [closed_eq];exact h4⟩,by rw [last_eq];exact h5⟩,h8⟩
theorem one_of (hT:rtab md ops=T) (h:(readyT T.2 l.toList == [i] && l.toList.set i true == l'.toList)=true):readyB md ops l l' i=true:=by
 simp only [Bool.and_eq_true] at h
 obtain ⟨h1,h2⟩:=h
 subst hT
 simp only [readyB,Bool.and_eq_true]
 exact ⟨by rw [ready_eq];exact h1,set_of h2⟩
theorem two_of (hT:rtab md ops=T) (h:(readyT T.2 l.toList == [i,j] && l.toList.set i true == li.toList && l.toList.set j true == lj.toList)=true):(Region.ready md ops l == [i,j] && l.setIfInBounds i true == li && l.setIfInBounds j true == lj)=true:=by
 simp only [Bool.and_eq_true] at h ⊢
 obtain ⟨⟨h1,h2⟩,h3⟩:=h
 subst hT
 exact ⟨⟨by rw [ready_eq];exact h1,set_of h2⟩,set_of h3⟩
theorem three_of (hT:rtab md ops=T) (h:(readyT T.2 l.toList == [i,j,k] && l.toList.set i true == li.toList && l.toList.set j true == lj.toList && l.toList.set k true == lk.toList)=true) :
  (Region.ready md ops l == [i,j,k] && l.setIfInBounds i true == li && l.setIfInBounds j true == lj && l.setIfInBounds k true == lk)=true:=by
 simp only [Bool.and_eq_true] at h ⊢
 obtain ⟨⟨⟨h1,h2⟩,h3⟩,h4⟩:=h
 subst hT
 exact ⟨⟨⟨by rw [ready_eq];exact h1,set_of h2⟩,set_of h3⟩,set_of h4⟩
theorem done_of (hT:rtab md ops=T) (h:(readyT T.2 l.toList == [])=true):(Region.ready md ops l == [])=true:=by
 subst hT
 rw [ready_eq]
 exact h
def upM (B:List Nat) (d:Nat):List Nat→Nat
 | []=>0
 | n :: r=>(2 ^ n ||| (if n < d then B.getD n 0 else 0)) ||| upM B d r
def waitsOk (T:List (List Nat × List Nat)) (B:List Nat):Bool:=(List.range T.length).all fun d=>match T[d]? with
 | some r=>(B.getD d 0 ||| upM B d r.1) == upM B d r.1
 | none=>false
theorem upM_bit {B:List Nat} {d i:Nat}:∀ {ns:List Nat},(upM B d ns).testBit i=true→∃ n∈ns,n=i∨(n < d∧(B.getD n 0).testBit i=true)
 | [],h=>by simp [upM] at h
 | n :: r,h=>by
  unfold upM at h
  rw [Nat.testBit_or,Nat.testBit_or,Bool.or_eq_true,Bool.or_eq_true] at h
  rcases h with (h|h)|h
  ·rw [Nat.testBit_two_pow] at h
   exact ⟨n,List.mem_cons_self,.inl (by simpa using h)⟩
  ·by_cases hn:n < d
   ·rw [if_pos hn] at h
    exact ⟨n,List.mem_cons_self,.inr ⟨hn,h⟩⟩
   ·rw [if_neg hn] at h
    simp at h
  ·obtain ⟨m,hm,h2⟩:=upM_bit h
   exact ⟨m,List.mem_cons_of_mem _ hm,h2⟩
theorem reach_bit {T:List (List Nat × List Nat)} {B:List Nat} (hB:waitsOk T B=true):∀ (fuel d:Nat),d < fuel→d < T.length→(B.getD d 0).testBit i=true→reachT T i fuel d=true
 | 0,d,h,_,_=>by omega
 | fuel + 1,d,h,hd,hb=>by
  have h1:=List.all_eq_true.1 hB d (List.mem_range.2 hd)
  cases hr:T[d]? with
  | none=>rw [hr] at h1;simp at h1
  | some r =>
   rw [hr] at h1
   simp only [beq_iff_eq] at h1
   have h2:(upM B d r.1).testBit i=true:=by rw [← h1,Nat.testBit_or,hb,Bool.true_or]
   obtain ⟨n,hn,h3⟩:=upM_bit h2
   unfold reachT
   rw [hr]
   simp only
   rw [List.any_eq_true]
   refine ⟨n,hn,?_⟩
   rcases h3 with rfl | ⟨h4,h5⟩
   ·simp
   ·rw [reach_bit hB fuel n (by omega) (by omega) h5,Bool.or_true]
def lastW (T:List (List Nat × List Nat)) (B:List Nat) (l:List Bool) (ds:List Nat) (i:Nat):Bool:=ds.all fun d=>l.getD d true || (decide (d < T.length) && (B.getD d 0).testBit i)
def takeW (T:Bool × List (List Nat × List Nat)) (B:List Nat) (ds:List Nat) (l l':List Bool) (i:Nat):Bool:=T.1 && freeT T.2 l i && readyAt T.2 l i && closedT T.2 l && lastW T.2 B l ds i && (l.set i true == l')
theorem take_ofW {B:List Nat} (hT:rtab md ops=T) (hB:waitsOk T.2 B=true) (h:takeW T B ds l.toList l'.toList i=true):takeB md ops ds l l' i=true:=by
 refine take_of hT ?_
 simp only [takeW,takeT,Bool.and_eq_true] at h ⊢
 obtain ⟨⟨⟨⟨⟨h1,h2⟩,h3⟩,h4⟩,h5⟩,h6⟩:=h
 refine ⟨⟨⟨⟨⟨h1,h2⟩,h3⟩,h4⟩,?_⟩,h6⟩
 unfold lastW at h5
 unfold lastT
 rw [List.all_eq_true] at h5 ⊢
 intro d hd
 have h7:=h5 d hd
 rw [Bool.or_eq_true,Bool.and_eq_true,decide_eq_true_eq] at h7
 rcases h7 with h7 | ⟨h8,h9⟩
 ·rw [h7,Bool.true_or]
 ·rw [reach_bit hB _ d h8 h8 h9,Bool.or_true]
theorem with_tabW {P:Program} {Q:Exit→Act→World→Prop} {S:World→Prop} {n:Nat} {a:Act} {w:World} {B:List Nat} (hT:rtab md ops=T) (hB:waitsOk T.2 B=true) (h:Aside0 (rtab md ops=T)→Aside0 (waitsOk T.2 B=true)→wpAnyLast P md ops Q S ds n l a w):wpAnyLast P md ops Q S ds n l a w:=h ⟨hT⟩ ⟨hB⟩
end
def opsIn:Code→Nat→Option (Array Oper)
 | .region id ops _,k=>if id == k then some ops else none
 | .seq a b,k=>match opsIn a k with
  | some o=>some o
  | none=>opsIn b k
 | .cond _ a b,k=>match opsIn a k with
  | some o=>some o
  | none=>opsIn b k
 | .block _ c,k=>opsIn c k
 | .loop c,k=>opsIn c k
 | .scope c,k=>opsIn c k
 | .rangeFunc _ _ a b,k=>match opsIn a k with
  | some o=>some o
  | none=>opsIn b k
 | _,_=>none
def opsOf (f:Func) (k:Nat):Array Oper:=((f.body.bind fun c=>opsIn c k)).getD #[]
end Go.Proofs.YtlpfmhikahlcoaaW.PrintLast
namespace Go.Proofs.YtlpfmhikahlcoaaW.PrintWords
theorem Reps.one {α:Type} {R:α→List Value→Prop} {ps:List α} {cs:List Value} {p:α} {v:Value} (hp:R p [v]) (h:Reps R 1 ps cs):Reps R 1 (p :: ps) (v :: cs):=by
 refine ⟨by simp [h.1],fun j q hq=>?_⟩
 cases j with
 | zero =>
  simp only [List.getElem?_cons_zero,Option.some.injEq] at hq
  subst hq
  simpa using hp
 | succ j =>
  simp only [List.getElem?_cons_succ] at hq
  have h1:=h.2 j q hq
  simpa [Nat.mul_one] using h1
theorem Reps.front {α:Type} {R:α→List Value→Prop} {size:Nat} {ps:List α} {cs c all:List Value} {p:α} (hp:R p c) (hc:c.length=size) (h:Reps R size ps cs) (ha:c ++ cs=all):Reps R size (p :: ps) all:=by
 subst ha
 refine ⟨by rw [List.length_append,hc,h.1,List.length_cons,Nat.succ_mul,Nat.add_comm],fun j q hq=>?_⟩
 cases j with
 | zero =>
  simp only [List.getElem?_cons_zero,Option.some.injEq] at hq
  subst hq
  rw [Nat.zero_mul,List.drop_zero,List.take_append_of_le_length (by omega),List.take_of_length_le (by omega)]
  exact hp
 | succ j =>
  simp only [List.getElem?_cons_succ] at hq
  have h1:=h.2 j q hq
  rw [Nat.succ_mul,List.drop_append,List.drop_of_length_le (by rw [hc];exact Nat.le_add_left _ _),List.nil_append,hc,Nat.add_sub_cancel]
  exact h1
theorem Reps.c2 {α:Type} {R:α→List Value→Prop} {ps:List α} {cs:List Value} {p:α} {va vb:Value} (hp:R p [va,vb]) (h:Reps R 2 ps cs):Reps R 2 (p :: ps) (va :: vb :: cs):=Reps.front hp rfl h rfl
theorem Reps.c3 {α:Type} {R:α→List Value→Prop} {ps:List α} {cs:List Value} {p:α} {va vb vc:Value} (hp:R p [va,vb,vc]) (h:Reps R 3 ps cs):Reps R 3 (p :: ps) (va :: vb :: vc :: cs):=Reps.front hp rfl h rfl
theorem Reps.c4 {α:Type} {R:α→List Value→Prop} {ps:List α} {cs:List Value} {p:α} {va vb vc vd:Value} (hp:R p [va,vb,vc,vd]) (h:Reps R 4 ps cs):Reps R 4 (p :: ps) (va :: vb :: vc :: vd :: cs):=Reps.front hp rfl h rfl
theorem Reps.c5 {α:Type} {R:α→List Value→Prop} {ps:List α} {cs:List Value} {p:α} {va vb vc vd ve:Value} (hp:R p [va,vb,vc,vd,ve]) (h:Reps R 5 ps cs):Reps R 5 (p :: ps) (va :: vb :: vc :: vd :: ve :: cs):=Reps.front hp rfl h rfl
theorem Reps.c6 {α:Type} {R:α→List Value→Prop} {ps:List α} {cs:List Value} {p:α} {va vb vc vd ve vf:Value} (hp:R p [va,vb,vc,vd,ve,vf]) (h:Reps R 6 ps cs):Reps R 6 (p :: ps) (va :: vb :: vc :: vd :: ve :: vf :: cs):=Reps.front hp rfl h rfl
theorem Reps.c7 {α:Type} {R:α→List Value→Prop} {ps:List α} {cs:List Value} {p:α} {va vb vc vd ve vf vg:Value} (hp:R p [va,vb,vc,vd,ve,vf,vg]) (h:Reps R 7 ps cs):Reps R 7 (p :: ps) (va :: vb :: vc :: vd :: ve :: vf :: vg :: cs):=Reps.front hp rfl h rfl
theorem Reps.c8 {α:Type} {R:α→List Value→Prop} {ps:List α} {cs:List Value} {p:α} {va vb vc vd ve vf vg vh:Value} (hp:R p [va,vb,vc,vd,ve,vf,vg,vh]) (h:Reps R 8 ps cs):Reps R 8 (p :: ps) (va :: vb :: vc :: vd :: ve :: vf :: vg :: vh :: cs):=Reps.front hp rfl h rfl
theorem Reps.c9 {α:Type} {R:α→List Value→Prop} {ps:List α} {cs:List Value} {p:α} {va vb vc vd ve vf vg vh vi:Value} (hp:R p [va,vb,vc,vd,ve,vf,vg,vh,vi]) (h:Reps R 9 ps cs):Reps R 9 (p :: ps) (va :: vb :: vc :: vd :: ve :: vf :: vg :: vh :: vi :: cs):=Reps.front hp rfl h rfl
theorem Reps.c10 {α:Type} {R:α→List Value→Prop} {ps:List α} {cs:List Value} {p:α} {va vb vc vd ve vf vg vh vi vj:Value} (hp:R p [va,vb,vc,vd,ve,vf,vg,vh,vi,vj]) (h:Reps R 10 ps cs):Reps R 10 (p :: ps) (va :: vb :: vc :: vd :: ve :: vf :: vg :: vh :: vi :: vj :: cs):=Reps.front hp rfl h rfl
end Go.Proofs.YtlpfmhikahlcoaaW.PrintWords
namespace Go.Proofs.Ytlpfmhikahlcoaa.G
open Go.Proofs.Ytlpfmhikahlcoaa.Sh Go.RowKit Go.Proofs.YtlpfmhikahlcoaaW.PrintWords Go.Proofs.YtlpfmhikahlcoaaW.PrintLast Go.Proofs.YtlpfmhikahlcoaaW.PrintMore
attribute [local go_sem] max2_int min2_int max_two min_two max_three min_three max_four min_four
set_option linter.unusedVariables false
set_option linter.unusedSimpArgs false
def errW:Option Int→Value
 | none => .nilIface
 | some c => .iface 0 (.int .i64 c)
theorem errW_none:errW none = .nilIface:=rfl
theorem errW_some (c:Int):errW (some c) = .iface 0 (.int .i64 c):=rfl
theorem info3:(Try.prog.info? 3).map (fun i=>(i.zero,i.size,i.bytes))=some (some (.int .i64 0),1,8):=by kernel_rfl
theorem info4:(Try.prog.info? 4).map (fun i=>(i.zero,i.size,i.bytes))=some (some (.bool false),1,1):=by kernel_rfl
theorem info5:(Try.prog.info? 5).map (fun i=>(i.zero,i.size,i.bytes))=some (some (.int .u8 0),1,1):=by kernel_rfl
theorem info108:(Try.prog.info? 108).map (fun i=>(i.zero,i.size,i.bytes))=some (some (.agg #[(.slice none 0 0),(.int .i64 0)]),2,32):=by kernel_rfl
structure S108 where
 f0:(List Int)
 f1:Int
def z108:S108:=⟨([]:List Int),(0:Int)⟩
def k108:Kd S108:=Kd.iso (Kd.pair (Kd.slice 3 (Kd.int .i64)) (Kd.int .i64)) (fun x:S108=>(x.f0,x.f1))
theorem k108_open {w:World} {x:S108} {cs:List Value} (h:k108.K w x cs):∃ A0 c0,cs=[.slice A0 x.f0.length c0,.int .i64 x.f1]∧x.f0.length≤c0∧(Kd.int .i64).C w A0 x.f0.length x.f0:=by
 obtain ⟨_,_,rfl,⟨A0,c0,rfl,l0,g0⟩,rfl⟩:=h
 exact ⟨A0,c0,rfl,l0,g0⟩
theorem k108_mk (w:World) (x:S108) {A0:Option Addr} {c0:Nat} (l0:x.f0.length≤c0) (g0:(Kd.int .i64).C w A0 x.f0.length x.f0):k108.K w x [.slice A0 x.f0.length c0,.int .i64 x.f1]:=⟨[.slice A0 x.f0.length c0],[.int .i64 x.f1],rfl,⟨A0,c0,rfl,l0,g0⟩,rfl⟩
theorem k108_mkM (w:World) (base:Nat) (ok:Nat→Prop) (x:S108) {v0:Value} (g0:(Kd.int .i64).R 3 w base ok v0 x.f0):k108.M w base ok x [v0,.int .i64 x.f1]:=⟨[v0],[.int .i64 x.f1],rfl,⟨v0,rfl,g0⟩,rfl⟩
theorem k108_openF {W:World} {ok:Nat→Prop} {x:S108} {cs:List Value} (h:Kd.FK k108 W ok x cs):∃ A0 c0,cs=[.slice A0 x.f0.length c0,.int .i64 x.f1]∧x.f0.length≤c0∧Kd.F (Kd.int .i64) W ok A0 x.f0.length x.f0:=by
 obtain ⟨A0,c0,rfl,l0,_⟩:=k108_open (Kd.FK_now h)
 exact ⟨A0,c0,rfl,l0,(fun W' hW=>by obtain ⟨A0_,c0_,he,l0_,g0_⟩:=k108_open (h W' hW);injection (Option.some.inj (show some (Value.slice A0 x.f0.length c0)=some (Value.slice A0_ x.f0.length c0_) from congrArg (fun l=>l[0]?) he)) with ha_ _ _;rw [ha_];exact g0_)⟩
theorem k108_mkF (W:World) (ok:Nat→Prop) (x:S108) {A0:Option Addr} {c0:Nat} (l0:x.f0.length≤c0) (g0:Kd.F (Kd.int .i64) W ok A0 x.f0.length x.f0):Kd.FK k108 W ok x [.slice A0 x.f0.length c0,.int .i64 x.f1]:=fun W2 hW=>k108_mk W2 x l0 (g0 W2 hW)
def rd_T108 (xs:List S108) (i:Int):S108:=xs.getD i.toNat z108
theorem at_T108 {w:World} {A:Option Addr} {n:Nat} {xs:List S108} (h:Kd.C k108 w A n xs) (i:Int) (h0:0≤i) (h1:i < n):∃ ad A0 c0,A=some ad∧w.cell? (ad.add (i.toNat * 2))=some (.slice A0 (rd_T108 xs i).f0.length c0)∧w.cell? ⟨(ad.add (i.toNat * 2)).block,(ad.add (i.toNat * 2)).off + 1,none⟩=some (.int .i64 (rd_T108 xs i).f1)∧(rd_T108 xs i).f0.length≤c0∧(Kd.int .i64).C w A0 (rd_T108 xs i).f0.length (rd_T108 xs i).f0:=by
 obtain ⟨ad,c,e,_,hK,hc0⟩:=Kd.C_get h z108 i h0 h1
 have hc:∀ j u,c[j]? = some u→w.cell? (ad.add (i.toNat * 2 + j))=some u:=hc0
 obtain ⟨A0,c0,rfl,l0,g0⟩:=k108_open hK
 exact ⟨ad,A0,c0,e,hc 0 _ rfl,by rw [← add_field _ _ 1 (by omega)];exact hc 1 _ rfl,l0,g0⟩
end Go.Proofs.Ytlpfmhikahlcoaa.G
set_option linter.unusedSimpArgs false
set_option linter.unusedVariables false
namespace Go.Proofs.Ytlpfmhikahlcoaa.Mp
open Go.RowKit Go.Maps Go.ChangeMaps
set_option linter.unusedSectionVars false
section
variable {κ:Type} [DecidableEq κ]
def mget:List (κ × Int)→κ→Int
 | [],_=>0
 | p :: r,x=>if p.1=x then p.2 else mget r x
def mhas:List (κ × Int)→κ→Bool
 | [],_=>false
 | p :: r,x=>if p.1=x then true else mhas r x
end
section
variable {P:Program} {k e t:TypeId} {κ:Type} [DecidableEq κ]
structure Codec (P:Program) (k:TypeId) (enc:κ→Value) (ok:κ→Prop):Prop where
 keyed:Keyed P k
 some_:∀ x,ok x→(keyOf P k (enc x)).isSome=true
 inj:∀ x y,enc x=enc y→x=y
variable {enc:κ→Value} {ok:κ→Prop}
def litOf (P:Program) (k:TypeId) (enc:κ→Value) (x:κ):Lit:=(keyOf P k (enc x)).getD (.bool false)
theorem Codec.key (C:Codec P k enc ok) {x:κ} (h:ok x):keyOf P k (enc x)=some (litOf P k enc x):=by
 have:=C.some_ x h
 unfold litOf
 cases h':keyOf P k (enc x) with
 | none=>rw [h'] at this;cases this
 | some l=>rfl
theorem Codec.ne (C:Codec P k enc ok) {x y:κ} (hx:ok x) (hy:ok y) (h:x≠y):litOf P k enc x≠litOf P k enc y:=fun he =>
 h (C.inj _ _ (C.keyed.inj (C.key hx) (he ▸ C.key hy)))
def datum (P:Program) (k:TypeId) (enc:κ→Value):List (κ × Int)→DataW Unit
 | [] => .map []
 | p :: r=>(datum P k enc r).put (litOf P k enc p.1) (.lit (.int .i64 p.2))
theorem datum_isMap:∀ m:List (κ × Int),Maps.IsMap (datum P k enc m)
 | []=>Maps.isMap_empty
 | p :: r=>(datum_isMap r).put _ _
theorem datum_at (C:Codec P k enc ok) {x:κ} (hx:ok x):∀ m:List (κ × Int),(∀ p∈m,ok p.1)→(datum P k enc m).atKey (litOf P k enc x) (.lit (.int .i64 0)) = .lit (.int .i64 (mget m x)):=by
 intro m
 induction m with
 | nil=>intro _;rfl
 | cons p r ih =>
  intro h
  have hp:=h p (by simp)
  unfold datum mget
  by_cases he:p.1=x
  ·rw [if_pos he,he]
   exact Maps.atKey_put_same (datum_isMap r) (C.keyed.key (C.key hx)) _ _
  ·rw [if_neg he,Maps.atKey_put_other (C.ne hx hp (fun h=>he h.symm))]
   exact ih fun q hq=>h q (by simp [hq])
theorem datum_has (C:Codec P k enc ok) {x:κ} (hx:ok x):∀ m:List (κ × Int),(∀ p∈m,ok p.1)→Maps.has (datum P k enc m) (litOf P k enc x)=mhas m x:=by
 intro m
 induction m with
 | nil=>intro _;rfl
 | cons p r ih =>
  intro h
  have hp:=h p (by simp)
  unfold datum mhas
  by_cases he:p.1=x
  ·rw [if_pos he,he]
   exact Maps.has_put_same (datum_isMap r) (C.keyed.key (C.key hx)) _
  ·rw [if_neg he,Maps.has_put_other (C.ne hx hp (fun h=>he h.symm))]
   exact ih fun q hq=>h q (by simp [hq])
structure IsMp (P:Program) (k e:TypeId) (enc:κ→Value) (ok:κ→Prop) (w:World) (b:Nat) (m:List (κ × Int)):Prop where
 own:w.ownsMap P k (plainElem P e) b m.length (datum P k enc m)
 oks:∀ p∈m,ok p.1
variable {w:World} {b:Nat} {m:List (κ × Int)}
theorem IsMp.made (P:Program) (k e:TypeId) (enc:κ→Value) (ok:κ→Prop) (w:World):IsMp P k e enc ok (w.alloc (.map #[] 0)) w.heap.size ([]:List (κ × Int)) :=
 ⟨World.ownsMap_made _ _ _ _,fun p hp=>by cases hp⟩
theorem IsMp.kept {w':World} {row:Option Nat} (h:IsMp P k e enc ok w b m) (hg:w.grownBy w' row) (hne:some b≠row):IsMp P k e enc ok w' b m:=⟨h.own.kept hg hne,h.oks⟩
theorem IsMp.lt (h:IsMp P k e enc ok w b m):b < w.heap.size:=h.own.lt
theorem IsMp.alloc (h:IsMp P k e enc ok w b m) (o:Obj):IsMp P k e enc ok (w.alloc o) b m:=⟨h.own.alloc o,h.oks⟩
theorem IsMp.drew (h:IsMp P k e enc ok w b m):IsMp P k e enc ok w.drew b m:=⟨h.own.drew,h.oks⟩
theorem IsMp.block {w':World} (h:IsMp P k e enc ok w b m) (hb:w'.heap[b]? = w.heap[b]?):IsMp P k e enc ok w' b m:=by
 obtain ⟨⟨es,clock,h1,h2⟩,h3⟩:=h
 exact ⟨⟨es,clock,hb.trans h1,h2⟩,h3⟩
theorem IsMp.drewN (h:IsMp P k e enc ok w b m) (n:Nat):IsMp P k e enc ok (w.drewN n) b m:=h.block rfl
theorem IsMp.below {w':World} {B:Nat} (h:IsMp P k e enc ok w b m) (hb:Below B w w') (hB:b < B):IsMp P k e enc ok w' b m:=h.block (hb.block b hB)
theorem IsMp.setCell (h:IsMp P k e enc ok w b m) {p:Addr} (hne:b≠p.block) (u:Value):IsMp P k e enc ok (w.setCell p u) b m :=
 h.block (heap_setCell_other w p b u hne)
theorem IsMp.ne (h:IsMp P k e enc ok w b m) {g:Nat} {cs:Array Value} {T:TypeId} {fr:Nat × Nat} (hg:w.heap[g]? = some (.cells cs T fr)):b≠g:=by
 obtain ⟨⟨es,clock,h1,_⟩,_⟩:=h
 rintro rfl
 rw [h1] at hg
 injection hg with hg
 cases hg
variable {ops:Array Oper} {rest:List Oper} {o:Oper} {a:Act} {Q:Exit→Act→World→Prop}
theorem wpList_mkmap (hg:o.guard=none) (hop:o.op=Op.makeMap t none) (k e:TypeId) (enc:κ→Value) (ok:κ→Prop)
  (hK:∀ mb w',mb=w.heap.size→IsMp P k e enc ok w' mb ([]:List (κ × Int))→Below w.heap.size w w'→wpList P ops Q rest (a.put o.dst (.map (some mb))) w'):wpList P ops Q (o :: rest) a w:=by
 refine wpList_plain hg fun K hK'=>?_
 unfold Oper.wp
 simp [execOp,hop,run_makeMap,Result.andThen]
 exact hK' _ _ (hK _ _ rfl (IsMp.made P k e enc ok w) ((Below.refl _ _).alloc (Nat.le_refl _) _))
theorem wpList_mget (hg:o.guard=none) (mo x:Operand) (hop:o.op=Op.lookup t mo x false) (C:Codec P k enc ok) (ht:P.underlying t=some (.map k e)) (he:P.underlying e=some (.int .i64))
  (hz:∀ w,(zeroValue e).run P w = .ok (.int .i64 0) w) (h:IsMp P k e enc ok w b m) (hm:a.eval mo = .map (some b)) (key:κ) (hx:a.eval x=enc key) (hk:ok key)
  (hK:wpList P ops Q rest (a.put o.dst (.int .i64 (mget m key))) w):wpList P ops Q (o :: rest) a w:=by
 refine wpList_lookup_own_int w hg mo x t hop k e .i64 C.keyed ht he (hz w) b m.length _ hm h.own _ _ hx (C.key hk) fun c hat _=>?_
 have:=(datum_at C hk m h.oks).symm.trans hat
 injection this with this
 injection this with _ this
 rw [← this]
 exact hK
theorem wpList_mget_ok (hg:o.guard=none) (mo x:Operand) (hop:o.op=Op.lookup t mo x true) (C:Codec P k enc ok) (ht:P.underlying t=some (.map k e)) (he:P.underlying e=some (.int .i64))
  (hz:∀ w,(zeroValue e).run P w = .ok (.int .i64 0) w) (h:IsMp P k e enc ok w b m) (hm:a.eval mo = .map (some b)) (key:κ) (hx:a.eval x=enc key) (hk:ok key)
  (hK:wpList P ops Q rest (a.put o.dst (.tuple #[.int .i64 (mget m key),.bool (mhas m key)])) w):wpList P ops Q (o :: rest) a w:=by
 refine wpList_lookup_own_ok_int w hg mo x t hop k e .i64 C.keyed ht he (hz w) b m.length _ hm h.own _ _ hx (C.key hk) fun c hat _=>?_
 have:=(datum_at C hk m h.oks).symm.trans hat
 injection this with this
 injection this with _ this
 rw [← this,datum_has C hk m h.oks]
 exact hK
theorem wpList_mput (hg:o.guard=none) (mo x v:Operand) (hop:o.op=Op.mapUpdate t mo x v) (C:Codec P k enc ok) (ht:P.underlying t=some (.map k e)) (he:P.underlying e=some (.int .i64))
  (h:IsMp P k e enc ok w b m) (hm:a.eval mo = .map (some b)) (key:κ) (hx:a.eval x=enc key) (hk:ok key) (n:Int) (hv:a.eval v = .int .i64 n) (hn:(Lit.int .i64 n).wf=true) (hl:m.length < maxLen)
  (hK:∀ w',IsMp P k e enc ok w' b ((key,n) :: m)→w.grownBy w' (some b)→wpList P ops Q rest (a.put o.dst undef) w'):wpList P ops Q (o :: rest) a w:=by
 refine wpList_mapUpdate_own w hg mo x v t hop k e C.keyed ht (plainElem P e) b m.length _ hm h.own hl _ _ _ hx hv (C.key hk) _ [] (plainElem_int he hn) fun w' h1 hg=>hK w' ⟨h1,fun p hp=>?_⟩ hg
 rcases List.mem_cons.1 hp with rfl|hp
 ·exact hk
 ·exact h.oks p hp
end
end Go.Proofs.Ytlpfmhikahlcoaa.Mp
set_option linter.unusedSimpArgs false
set_option linter.unusedVariables false
namespace Go.Proofs.Ytlpfmhikahlcoaa.Mp
open Go.RowKit Go.Maps Go.ChangeMaps
section
variable {P:Program} {k e t:TypeId} {κ:Type} [DecidableEq κ] {enc:κ→Value} {ok:κ→Prop} {w:World} {b:Nat} {m:List (κ × Int)} {o:Oper} {a:Act}
theorem mget_ok_run (mo x:Operand) (hop:o.op=Op.lookup t mo x true) (C:Codec P k enc ok) (ht:P.underlying t=some (.map k e)) (he:P.underlying e=some (.int .i64))
  (hz:∀ w,(zeroValue e).run P w = .ok (.int .i64 0) w) (h:IsMp P k e enc ok w b m) (hm:a.eval mo = .map (some b)) (key:κ) (hx:a.eval x=enc key) (hk:ok key) :
  (execOp a.eval o).run P w = .ok (.value (.tuple #[.int .i64 (mget m key),.bool (mhas m key)])) w:=by
 obtain ⟨v,ps,hrun,hv⟩:=h.own.look_ok C.keyed ht (hz w) (plainElem_int he (by decide:(Lit.int .i64 0).wf=true)) (C.key hk)
 obtain ⟨c,rfl,hc,hwc⟩:=plainElem_int_inv he hv
 have h1:=(datum_at C hk m h.oks).symm.trans (congrArg Prod.fst hc)
 injection h1 with h1
 injection h1 with _ h1
 rw [h1,← datum_has C hk m h.oks]
 simp [execOp,hop,hm,hx,hrun]
variable {ops:Array Oper} {Q:Exit→Act→World→Prop} {Kc:Act→World→Prop}
open Go.Proofs.YtlpfmhikahlcoaaW.PrintLast
theorem mget_ok_step {N:Option Tmp} (hw:Region.wanted o (yielded ops a.tmps)=true) (hN:o.dst=N) (mo x:Operand) (hop:o.op=Op.lookup t mo x true) (C:Codec P k enc ok) (ht:P.underlying t=some (.map k e)) (he:P.underlying e=some (.int .i64))
  (hz:∀ w,(zeroValue e).run P w = .ok (.int .i64 0) w) (h:IsMp P k e enc ok w b m) (hm:a.eval mo = .map (some b)) (key:κ) (hx:a.eval x=enc key) (hk:ok key)
  (hK:Kc (a.put N (.tuple #[.int .i64 (mget m key),.bool (mhas m key)])) w):if Region.wanted o (yielded ops a.tmps)=true then Oper.wp P o a w Kc Q else Kc (a.put N undef) w :=
 value_ hw hN (mget_ok_run mo x hop C ht he hz h hm key hx hk) hK
end
end Go.Proofs.Ytlpfmhikahlcoaa.Mp
namespace Go.Proofs.Ytlpfmhikahlcoaa.G
open Go.Proofs.Ytlpfmhikahlcoaa.Sh Go.RowKit Go.Proofs.YtlpfmhikahlcoaaW.PrintWords Go.Proofs.YtlpfmhikahlcoaaW.PrintLast Go.Proofs.YtlpfmhikahlcoaaW.PrintMore
attribute [local go_sem] max2_int min2_int max_two min_two max_three min_three max_four min_four
set_option linter.unusedVariables false
set_option linter.unusedSimpArgs false
def impl_Table_half.f (A6:Int) (A1:ByteArray) (a1:Int):Option (Int × ByteArray):=if a1=0 then (if 0≤(wrap64 ((A1.size:Int) / 2)) then (if (wrap64 ((A1.size:Int) / 2))≤(A1.size:Int) then (some (wrap64 (A6 - 1),A1.extract 0 ((wrap64 ((A1.size:Int) / 2)):Int).toNat)) else (none)) else (none)) else (if 0≤(wrap64 ((A1.size:Int) / 2)) then (if (wrap64 ((A1.size:Int) / 2))≤(A1.size:Int) then (some (wrap64 (A6 - 1),A1.extract ((wrap64 ((A1.size:Int) / 2)):Int).toNat A1.size)) else (none)) else (none))
def impl_Table_half.T3:Bool × List (List Nat × List Nat):=(true,[([],[]),([0],[0]),([1],[1]),([],[]),([3],[3]),([],[]),([4,5],[4,5]),([2,6],[2,6]),([7,0,1,2,3,4,5,6,7],[7])])
def impl_Table_half.B3:List Nat:=[0,1,3,0,8,0,56,127,255]
theorem impl_Table_half.tab3:rtab .any (opsOf Try.f108 3)=impl_Table_half.T3:=by kernel_rfl
theorem impl_Table_half.bits3:waitsOk impl_Table_half.T3.2 impl_Table_half.B3=true:=by kernel_rfl
def impl_Table_half.T4:Bool × List (List Nat × List Nat):=(true,[([],[]),([0],[0]),([1],[1]),([],[]),([3],[3]),([],[]),([4,5],[4,5]),([2,6],[2,6]),([7,0,1,2,3,4,5,6,7],[7])])
def impl_Table_half.B4:List Nat:=[0,1,3,0,8,0,56,127,255]
theorem impl_Table_half.tab4:rtab .any (opsOf Try.f108 4)=impl_Table_half.T4:=by kernel_rfl
theorem impl_Table_half.bits4:waitsOk impl_Table_half.T4.2 impl_Table_half.B4=true:=by kernel_rfl
set_option maxHeartbeats 80000000 in
set_option maxRecDepth 100000 in
theorem impl_Table_half.calls (A6:Int) (A1:ByteArray) (a1:Int) (r1:Int) (r2:ByteArray) (w:World) (h:impl_Table_half.f A6 A1 a1=some (r1,r2)) :
  Calls Try.prog 108 #[.agg #[.int .i64 A6,.string A1],.int .i64 a1] w fun e w'=>e = .returned (.agg #[.int .i64 r1,.string r2])∧Below w.heap.size w w':=by
 have hu29:=Try.underlying29;have HB:=Aside0.mk (Below.refl w.heap.size w);have H:(if a1=0 then (if 0≤(wrap64 ((A1.size:Int) / 2)) then (if (wrap64 ((A1.size:Int) / 2))≤(A1.size:Int) then (some (wrap64 (A6 - 1),A1.extract 0 ((wrap64 ((A1.size:Int) / 2)):Int).toNat)) else (none)) else (none)) else (if 0≤(wrap64 ((A1.size:Int) / 2)) then (if (wrap64 ((A1.size:Int) / 2))≤(A1.size:Int) then (some (wrap64 (A6 - 1),A1.extract ((wrap64 ((A1.size:Int) / 2)):Int).toNat A1.size)) else (none)) else (none)))=some (r1,r2):=h;clear h
 by_cases c3:a1=0
 ·rw [if_pos c3] at H;have c3b0:(a1 == 0)=true:=beq_iff_eq.mpr c3;have c3b1:(a1 != 0)=false:=bne_eq_false_iff_eq.mpr c3;clear c3;obtain ⟨ji4,hji4⟩:∃ j_:Int,(wrap64 ((A1.size:Int) / 2))=j_:=⟨_,rfl⟩
  replace H:(if 0≤(ji4) then (if (ji4)≤(A1.size:Int) then (some (wrap64 (A6 - 1),A1.extract 0 ((ji4):Int).toNat)) else (none)) else (none))=some (r1,r2):=by first|(rw [hji4] at H;exact H)|(simp only [hji4] at H ⊢;exact H)
  have hji4w:(IntKind.i64.wrap ((A1.size:Int) / 2))=ji4:=(i64_w _).trans hji4
  by_cases c5:0≤(ji4)
  ·rw [if_pos c5] at H;have c5b0:=eq_true c5;have c5b1:decide (0≤(ji4))=true:=decide_eq_true c5;clear c5
   by_cases c6:(ji4)≤(A1.size:Int)
   ·rw [if_pos c6] at H;have c6b0:=eq_true c6;have c6b1:decide ((ji4)≤(A1.size:Int))=true:=decide_eq_true c6;clear c6;simp only [Option.some.injEq,Prod.mk.injEq] at H;obtain ⟨rfl,rfl⟩:=H
    go_enter Try.func108,Try.ntmps108
    try go_wp2_with (first|((with_reducible refine gate_dst (N:=2) rfl ?_);refine bx (N:=2) (cs:=#[.int .i64 A6,.string A1]) (t:=29) ?_;intro A8 hg w7 hbox hb;have A2:=Aside0.mk (hbox);have A9:=bz0 hg HB;have A7:=bz0 hg HB;replace HB:=bs0 HB hb;clear hb hbox hg)|((with_reducible refine gate_dst (N:=4) rfl ?_);refine bx (N:=4) (cs:=#[.int .i64 0,.string (⟨#[]⟩:ByteArray)]) (t:=29) ?_;intro A5 hg w8 hbox hb;have A4:=Aside0.mk (hbox);have Aa:=bz1 hg HB A7;have Ab:=bz1 hg HB A7;replace HB:=bs1 HB hb A7;have A0:=nl hg A2;have A3:=ng hg A2;replace A2:=bb A2 hb;clear hb hbox hg;have hnb9:=A0.out;have hnc9:=A3.out;have hcz10__:=c2_ A2;have hfz10__:=f_ A2));replace A2:=Aside0.mk (blk_drew A2.out);replace A4:=Aside0.mk (blk_drew A4.out);replace HB:=Aside0.mk (below_drew1 HB.out)
    refine start_ (n:=9) (S:=fun w'=>w'.cell? ⟨A8,0,none⟩=some (.int .i64 A6)∧w'.cell? ⟨A8,1,none⟩=some (.string A1)) (ds:=[]) (tf 0 9) (by kernel_rfl) rfl rfl ⟨(blk_cell A2.out 0).trans rfl,(blk_cell A2.out 1).trans rfl⟩ (fun hHeld=>?_);refine with_tabW impl_Table_half.tab3 impl_Table_half.bits3 (fun HT_ HW_=>?_);generalize w8.drew=w11 at A2 A4 HB hHeld ⊢;refine pure_ (i:=0) (N:=some 12) (v:=?_) (a':=?_) (tf 1 8) rfl rfl (any_of HT_.out (by kernel_rfl)) (fun _ _ _ h=>h) (Or.inl ⟨by rfl,?_⟩) ?_ ?_;rotate_left
    ·intro w';go_simp;with_reducible rfl
    rotate_left
    ·simp only [Act.put,s1,s2,s3,i64_w,i32_w];rfl
    refine pure_ (i:=3) (N:=some 15) (v:=?_) (a':=?_) #[true,false,false,true,false,false,false,false,false] rfl rfl (any_of HT_.out (by kernel_rfl)) (fun _ _ _ h=>h) (Or.inl ⟨by rfl,?_⟩) ?_ ?_;rotate_left
    ·intro w';go_simp;with_reducible rfl
    rotate_left
    ·simp only [Act.put,s1,s2,s3,i64_w,i32_w];rfl
    refine pure_ (i:=5) (N:=some 17) (v:=?_) (a':=?_) #[true,false,false,true,false,true,false,false,false] rfl rfl (any_of HT_.out (by kernel_rfl)) (fun _ _ _ h=>h) (Or.inl ⟨by rfl,?_⟩) ?_ ?_;rotate_left
    ·intro w';go_simp;with_reducible rfl
    rotate_left
    ·simp only [Act.put,s1,s2,s3,i64_w,i32_w];rfl
    refine take_ (i:=1) (N:=some 13) (v:=?_) (a':=?_) #[true,true,false,true,false,true,false,false,false] rfl rfl (take_ofW HT_.out HW_.out (by kernel_rfl)) (fun _ _ _ h=>h) (Or.inl ⟨by rfl,?_⟩) hHeld ?_ ?_;rotate_left
    ·rintro w' ⟨s0,s1⟩;go_simp;with_reducible rfl
    rotate_left
    ·simp only [Act.put,s1,s2,s3,i64_w,i32_w];rfl
    refine pure_ (i:=2) (N:=some 14) (v:=?_) (a':=?_) #[true,true,true,true,false,true,false,false,false] rfl rfl (any_of HT_.out (by kernel_rfl)) (fun _ _ _ h=>h) (Or.inl ⟨by rfl,?_⟩) ?_ ?_;rotate_left
    ·intro w';go_simp;with_reducible rfl
    rotate_left
    ·simp only [Act.put,s1,s2,s3,i64_w,i32_w];rfl
    refine take_ (i:=4) (N:=some 16) (v:=?_) (a':=?_) (tf 6 3) rfl rfl (take_ofW HT_.out HW_.out (by kernel_rfl)) (fun _ _ _ h=>h) (Or.inl ⟨by rfl,?_⟩) hHeld ?_ ?_;rotate_left
    ·rintro w' ⟨s0,s1⟩;go_simp;with_reducible rfl
    rotate_left
    ·simp only [Act.put,s1,s2,s3,i64_w,i32_w];rfl
    refine pure_ (i:=6) (N:=some 18) (v:=?_) (a':=?_) (tf 7 2) rfl rfl (any_of HT_.out (by kernel_rfl)) (fun _ _ _ h=>h) (Or.inl ⟨by rfl,?_⟩) ?_ ?_;rotate_left
    ·intro w';go_simp;with_reducible rfl
    rotate_left
    ·simp only [Act.put,s1,s2,s3,i64_w,i32_w];rfl
    refine pure_ (i:=7) (N:=some 19) (v:=?_) (a':=?_) (tf 8 1) rfl rfl (any_of HT_.out (by kernel_rfl)) (fun _ _ _ h=>h) (Or.inl ⟨by rfl,?_⟩) ?_ ?_;rotate_left
    ·intro w';go_simp;with_reducible rfl
    rotate_left
    ·simp only [Act.put,s1,s2,s3,i64_w,i32_w];rfl
    refine one_ (i:=8) (N:=none) (tf 9 0) rfl rfl (one_of HT_.out (by kernel_rfl)) (by decide) (fun K hK=>?_);have hs12:w11.cell? ⟨A5,0,none⟩=some (.int .i64 0):=(blk_cell A4.out 0).trans rfl;have hfs12:=blk_frozen A4.out 0;have hns12_0:=A0.out;have hms12_0:=A3.out;have hs13:w11.cell? ⟨A5,1,none⟩=some (.string (⟨#[]⟩:ByteArray)):=(blk_cell A4.out 1).trans rfl;have hfs13:=blk_frozen A4.out 1;have hns13_0:=A0.out;have hms13_0:=A3.out;refine skip_ (w1:=?_) (by rfl) rfl ?_ ?_;rotate_left
    ·go_simp;rfl
    refine hK.out _ _ ⟨((cell_far (p:=⟨A5,_,none⟩) A0.out _).trans (((cell_far (p:=⟨A5,_,none⟩) A0.out _).trans (hHeld.1)))),((cell_far (p:=⟨A5,_,none⟩) A0.out _).trans (((cell_far (p:=⟨A5,_,none⟩) A0.out _).trans (hHeld.2))))⟩ (fun hHeld=>?_);clear hK K;refine done_ (done_of HT_.out (by kernel_rfl)) ?_
    try go_wp2
    refine bodyPost_ret (results_cell_row rfl _ _ A5 29 #[.int .i64 (wrap64 (A6 - 1)),.string (A1.extract 0 ((ji4):Int).toNat)] (0,0) _ rfl (by (with_reducible repeat (first|refine blk_drewN ?_ _|refine blk_drew ?_|refine blk_alloc ?_ _));exact bp2 A4.out) Try.underlying29 rfl (by kernel_rfl)) rfl ?_;exact ⟨by first|rfl|(simp [errW_none,errW_some] <;> rfl)|(simp only [← hji4];first|rfl|(simp [errW_none,errW_some] <;> rfl))|(simp [*,errW_none,errW_some] <;> rfl),tb HB⟩
   ·rw [if_neg c6] at H;exact absurd H (by simp)
  ·rw [if_neg c5] at H;exact absurd H (by simp)
 ·rw [if_neg c3] at H;have c3b0:(a1 == 0)=false:=beq_eq_false_iff_ne.mpr c3;have c3b1:(a1 != 0)=true:=bne_iff_ne.mpr c3;obtain ⟨ji14,hji14⟩:∃ j_:Int,(wrap64 ((A1.size:Int) / 2))=j_:=⟨_,rfl⟩
  replace H:(if 0≤(ji14) then (if (ji14)≤(A1.size:Int) then (some (wrap64 (A6 - 1),A1.extract ((ji14):Int).toNat A1.size)) else (none)) else (none))=some (r1,r2):=by first|(rw [hji14] at H;exact H)|(simp only [hji14] at H ⊢;exact H)
  have hji14w:(IntKind.i64.wrap ((A1.size:Int) / 2))=ji14:=(i64_w _).trans hji14
  by_cases c15:0≤(ji14)
  ·rw [if_pos c15] at H;have c15b0:=eq_true c15;have c15b1:decide (0≤(ji14))=true:=decide_eq_true c15;clear c15
   by_cases c16:(ji14)≤(A1.size:Int)
   ·rw [if_pos c16] at H;have c16b0:=eq_true c16;have c16b1:decide ((ji14)≤(A1.size:Int))=true:=decide_eq_true c16;clear c16;simp only [Option.some.injEq,Prod.mk.injEq] at H;obtain ⟨rfl,rfl⟩:=H
    go_enter Try.func108,Try.ntmps108
    try go_wp2_with (first|((with_reducible refine gate_dst (N:=2) rfl ?_);refine bx (N:=2) (cs:=#[.int .i64 A6,.string A1]) (t:=29) ?_;intro A8 hg w17 hbox hb;have A2:=Aside0.mk (hbox);have A9:=bz0 hg HB;have A7:=bz0 hg HB;replace HB:=bs0 HB hb;clear hb hbox hg)|((with_reducible refine gate_dst (N:=4) rfl ?_);refine bx (N:=4) (cs:=#[.int .i64 0,.string (⟨#[]⟩:ByteArray)]) (t:=29) ?_;intro A5 hg w18 hbox hb;have A4:=Aside0.mk (hbox);have Aa:=bz1 hg HB A7;have Ab:=bz1 hg HB A7;replace HB:=bs1 HB hb A7;have A0:=nl hg A2;have A3:=ng hg A2;replace A2:=bb A2 hb;clear hb hbox hg;have hnb19:=A0.out;have hnc19:=A3.out;have hcz20__:=c2_ A2;have hfz20__:=f_ A2));replace A2:=Aside0.mk (blk_drew A2.out);replace A4:=Aside0.mk (blk_drew A4.out);replace HB:=Aside0.mk (below_drew1 HB.out)
    refine start_ (n:=9) (S:=fun w'=>w'.cell? ⟨A8,0,none⟩=some (.int .i64 A6)∧w'.cell? ⟨A8,1,none⟩=some (.string A1)) (ds:=[]) (tf 0 9) (by kernel_rfl) rfl rfl ⟨(blk_cell A2.out 0).trans rfl,(blk_cell A2.out 1).trans rfl⟩ (fun hHeld=>?_);refine with_tabW impl_Table_half.tab4 impl_Table_half.bits4 (fun HT_ HW_=>?_);generalize w18.drew=w21 at A2 A4 HB hHeld ⊢;refine pure_ (i:=0) (N:=some 20) (v:=?_) (a':=?_) (tf 1 8) rfl rfl (any_of HT_.out (by kernel_rfl)) (fun _ _ _ h=>h) (Or.inl ⟨by rfl,?_⟩) ?_ ?_;rotate_left
    ·intro w';go_simp;with_reducible rfl
    rotate_left
    ·simp only [Act.put,s1,s2,s3,i64_w,i32_w];rfl
    refine pure_ (i:=3) (N:=some 23) (v:=?_) (a':=?_) #[true,false,false,true,false,false,false,false,false] rfl rfl (any_of HT_.out (by kernel_rfl)) (fun _ _ _ h=>h) (Or.inl ⟨by rfl,?_⟩) ?_ ?_;rotate_left
    ·intro w';go_simp;with_reducible rfl
    rotate_left
    ·simp only [Act.put,s1,s2,s3,i64_w,i32_w];rfl
    refine pure_ (i:=5) (N:=some 25) (v:=?_) (a':=?_) #[true,false,false,true,false,true,false,false,false] rfl rfl (any_of HT_.out (by kernel_rfl)) (fun _ _ _ h=>h) (Or.inl ⟨by rfl,?_⟩) ?_ ?_;rotate_left
    ·intro w';go_simp;with_reducible rfl
    rotate_left
    ·simp only [Act.put,s1,s2,s3,i64_w,i32_w];rfl
    refine take_ (i:=1) (N:=some 21) (v:=?_) (a':=?_) #[true,true,false,true,false,true,false,false,false] rfl rfl (take_ofW HT_.out HW_.out (by kernel_rfl)) (fun _ _ _ h=>h) (Or.inl ⟨by rfl,?_⟩) hHeld ?_ ?_;rotate_left
    ·rintro w' ⟨s0,s1⟩;go_simp;with_reducible rfl
    rotate_left
    ·simp only [Act.put,s1,s2,s3,i64_w,i32_w];rfl
    refine pure_ (i:=2) (N:=some 22) (v:=?_) (a':=?_) #[true,true,true,true,false,true,false,false,false] rfl rfl (any_of HT_.out (by kernel_rfl)) (fun _ _ _ h=>h) (Or.inl ⟨by rfl,?_⟩) ?_ ?_;rotate_left
    ·intro w';go_simp;with_reducible rfl
    rotate_left
    ·simp only [Act.put,s1,s2,s3,i64_w,i32_w];rfl
    refine take_ (i:=4) (N:=some 24) (v:=?_) (a':=?_) (tf 6 3) rfl rfl (take_ofW HT_.out HW_.out (by kernel_rfl)) (fun _ _ _ h=>h) (Or.inl ⟨by rfl,?_⟩) hHeld ?_ ?_;rotate_left
    ·rintro w' ⟨s0,s1⟩;go_simp;with_reducible rfl
    rotate_left
    ·simp only [Act.put,s1,s2,s3,i64_w,i32_w];rfl
    refine pure_ (i:=6) (N:=some 26) (v:=?_) (a':=?_) (tf 7 2) rfl rfl (any_of HT_.out (by kernel_rfl)) (fun _ _ _ h=>h) (Or.inl ⟨by rfl,?_⟩) ?_ ?_;rotate_left
    ·intro w';go_simp;with_reducible rfl
    rotate_left
    ·simp only [Act.put,s1,s2,s3,i64_w,i32_w];rfl
    refine pure_ (i:=7) (N:=some 27) (v:=?_) (a':=?_) (tf 8 1) rfl rfl (any_of HT_.out (by kernel_rfl)) (fun _ _ _ h=>h) (Or.inl ⟨by rfl,?_⟩) ?_ ?_;rotate_left
    ·intro w';go_simp;with_reducible rfl
    rotate_left
    ·simp only [Act.put,s1,s2,s3,i64_w,i32_w];rfl
    refine one_ (i:=8) (N:=none) (tf 9 0) rfl rfl (one_of HT_.out (by kernel_rfl)) (by decide) (fun K hK=>?_);have hs22:w21.cell? ⟨A5,0,none⟩=some (.int .i64 0):=(blk_cell A4.out 0).trans rfl;have hfs22:=blk_frozen A4.out 0;have hns22_0:=A0.out;have hms22_0:=A3.out;have hs23:w21.cell? ⟨A5,1,none⟩=some (.string (⟨#[]⟩:ByteArray)):=(blk_cell A4.out 1).trans rfl;have hfs23:=blk_frozen A4.out 1;have hns23_0:=A0.out;have hms23_0:=A3.out;refine skip_ (w1:=?_) (by rfl) rfl ?_ ?_;rotate_left
    ·go_simp;rfl
    refine hK.out _ _ ⟨((cell_far (p:=⟨A5,_,none⟩) A0.out _).trans (((cell_far (p:=⟨A5,_,none⟩) A0.out _).trans (hHeld.1)))),((cell_far (p:=⟨A5,_,none⟩) A0.out _).trans (((cell_far (p:=⟨A5,_,none⟩) A0.out _).trans (hHeld.2))))⟩ (fun hHeld=>?_);clear hK K;refine done_ (done_of HT_.out (by kernel_rfl)) ?_
    try go_wp2
    refine bodyPost_ret (results_cell_row rfl _ _ A5 29 #[.int .i64 (wrap64 (A6 - 1)),.string (A1.extract ((ji14):Int).toNat A1.size)] (0,0) _ rfl (by (with_reducible repeat (first|refine blk_drewN ?_ _|refine blk_drew ?_|refine blk_alloc ?_ _));exact bp2 A4.out) Try.underlying29 rfl (by kernel_rfl)) rfl ?_;exact ⟨by first|rfl|(simp [errW_none,errW_some] <;> rfl)|(simp only [← hji14];first|rfl|(simp [errW_none,errW_some] <;> rfl))|(simp [*,errW_none,errW_some] <;> rfl),tb HB⟩
   ·rw [if_neg c16] at H;exact absurd H (by simp)
  ·rw [if_neg c15] at H;exact absurd H (by simp)
end Go.Proofs.Ytlpfmhikahlcoaa.G
namespace Go.Proofs.Ytlpfmhikahlcoaa.G
open Go.Proofs.Ytlpfmhikahlcoaa.Sh
open Go.RowKit Go.Proofs.YtlpfmhikahlcoaaW.PrintWords Go.Proofs.YtlpfmhikahlcoaaW.PrintLast Go.Proofs.YtlpfmhikahlcoaaW.PrintMore
attribute [local go_sem] max2_int min2_int max_two min_two max_three min_three max_four min_four
set_option linter.unusedVariables false
set_option linter.unusedSimpArgs false
def impl_bit.f (a0:Bool):Option (Int):=if a0=true then (some 1) else (some 0)
set_option maxHeartbeats 8000000 in
set_option maxRecDepth 100000 in
theorem impl_bit.calls (a0:Bool) (r:Int) (w:World) (h:impl_bit.f a0=some r) :
  Calls Try.prog 99 #[.bool a0] w fun e w'=>e = .returned (.int .i64 r)∧Drawn0 w w':=by
 have H:(if a0=true then (some 1) else (some 0))=some r:=h;clear h
 by_cases c2:a0=true
 ·subst c2
  have H1:(some 1)=some r:=by rw [if_pos rfl] at H;exact H
  clear H;have H:=H1;clear H1;obtain rfl:=os H
  go_enter Try.func99,Try.ntmps99
  go_wp2;go_ret;exact ⟨e1,dn⟩
 ·replace c2:=Bool.eq_false_iff.mpr c2;subst c2
  have H1:(some 0)=some r:=by rw [if_neg (show ¬ (false=true) by decide)] at H;exact H
  clear H;have H:=H1;clear H1;obtain rfl:=os H
  go_enter Try.func99,Try.ntmps99
  go_wp2;go_ret;exact ⟨e1,dn⟩
end Go.Proofs.Ytlpfmhikahlcoaa.G
namespace Go.Proofs
open Go.Shelf
def Try.lays144_ren:Go.Shelf.Ren:=⟨fun|144=>125|143=>132|219=>136|217=>137|225=>138|224=>139|267=>140|266=>141|314=>142|n=>n,fun|9=>9|4=>4|3=>3|5=>5|46=>132|146=>153|51=>152|n=>n,fun|1=>0|n=>n⟩
theorem Try.lays144:Go.Proofs.Lays.n144 Try.prog Try.lays144_ren:={
 mixed:=by kernel_rfl
 f143:=Try.func132.trans (congrArg some (by kernel_rfl))
 f144:=Try.func125.trans (congrArg some (by kernel_rfl))
 f217:=Try.func137.trans (congrArg some (by kernel_rfl))
 f219:=Try.func136.trans (congrArg some (by kernel_rfl))
 f224:=Try.func139.trans (congrArg some (by kernel_rfl))
 f225:=Try.func138.trans (congrArg some (by kernel_rfl))
 f266:=Try.func141.trans (congrArg some (by kernel_rfl))
 f267:=Try.func140.trans (congrArg some (by kernel_rfl))
 f314:=Try.func142.trans (congrArg some (by kernel_rfl))
 t3:=Try.underlying3
 a3:=Try.isAgg3
 z3:=Try.sizeOf3
 v3:=Try.zeroValue3
 t4:=Try.underlying4
 a4:=Try.isAgg4
 z4:=Try.sizeOf4
 v4:=Try.zeroValue4
 t5:=Try.underlying5
 a5:=Try.isAgg5
 z5:=Try.sizeOf5
 v5:=Try.zeroValue5
 t9:=Try.underlying9
 a9:=Try.isAgg9
 z9:=Try.sizeOf9
 v9:=Try.zeroValue9
 t46:=Try.underlying132
 a46:=Try.isAgg132
 z46:=Try.sizeOf132
 v46:=Try.zeroValue132
 t51:=Try.underlying152
 a51:=Try.isAgg152
 z51:=Try.sizeOf152
 v51:=Try.zeroValue152
 t146:=Try.underlying153
 a146:=Try.isAgg153
 z146:=Try.sizeOf153
 v146:=Try.zeroValue153
 g1:=by kernel_rfl }
open Go.RowKit Go.Lib in
theorem Try.strings_Contains_one (s:ByteArray) (c:UInt8) (w:World) :
  Calls Try.prog 125 #[.string s,.string ⟨#[c]⟩] w fun e w'=>e = .returned (.bool (decide (0≤Lib.indexByte s.data.toList c)))∧w'=w:=Any.strings_Contains_one Try.lays144 s c w
end Go.Proofs
namespace Go.Proofs.Ytlpfmhikahlcoaa.G
open Go.Proofs.Ytlpfmhikahlcoaa.Sh
open Go.RowKit Go.Proofs.YtlpfmhikahlcoaaW.PrintWords Go.Proofs.YtlpfmhikahlcoaaW.PrintLast Go.Proofs.YtlpfmhikahlcoaaW.PrintMore
attribute [local go_sem] max2_int min2_int max_two min_two max_three min_three max_four min_four
set_option linter.unusedVariables false
set_option linter.unusedSimpArgs false
def strings_Contains.f (a0:ByteArray) (a1:ByteArray):Option Bool:=match a1 with
 | ⟨⟨[c]⟩⟩=>some (a0.data.toList.contains c)
 | _=>none
theorem strings_Contains.calls (a0:ByteArray) (a1:ByteArray) (r:Bool) (w:World) (h:strings_Contains.f a0 a1=some r) :
  Calls Try.prog 125 #[.string a0,.string a1] w fun e w'=>e = .returned (.bool r)∧Drawn0 w w':=by
 unfold strings_Contains.f at h
 split at h
 ·rename_i c
  obtain rfl:=Option.some.inj h
  refine (Try.strings_Contains_one a0 c w).mono fun e w' hh=>?_
  obtain ⟨rfl,rfl⟩:=hh;exact ⟨by rw [Go.Lib.contains_iff_indexByte],Drawn0.refl _⟩
 ·cases h
def impl_Table_known.f (Aa:Int) (A0:ByteArray):Option (Int):=(strings_Contains.f A0 (⟨#[49]⟩:ByteArray)).bind fun A6=>(if A6=true then ((strings_Contains.f A0 (⟨#[48]⟩:ByteArray)).bind fun A7=>(if A7=true then (some (-1)) else ((impl_bit.f A6).bind fun A5=>(some A5)))) else ((impl_bit.f A6).bind fun A9=>(some A9)))
set_option maxHeartbeats 8000000 in
set_option maxRecDepth 100000 in
theorem impl_Table_known.calls (Aa:Int) (A0:ByteArray) (r:Int) (w:World) (h:impl_Table_known.f Aa A0=some r) :
  Calls Try.prog 107 #[.agg #[.int .i64 Aa,.string A0]] w fun e w'=>e = .returned (.int .i64 r)∧Below w.heap.size w w':=by
 have hu29:=Try.underlying29;have HB:=Aside0.mk (Below.refl w.heap.size w);have H:((strings_Contains.f A0 (⟨#[49]⟩:ByteArray)).bind fun A6=>(if A6=true then ((strings_Contains.f A0 (⟨#[48]⟩:ByteArray)).bind fun A7=>(if A7=true then (some (-1)) else ((impl_bit.f A6).bind fun A5=>(some A5)))) else ((impl_bit.f A6).bind fun A9=>(some A9))))=some r:=h;clear h;replace H:=ob H;obtain ⟨A6,A20,H⟩:=H
 try dsimp only at H
 have A2:=Aside0.mk A20;clear A20
 by_cases c3:A6=true
 ·subst c3
  have H1:((strings_Contains.f A0 (⟨#[48]⟩:ByteArray)).bind fun A7=>(if A7=true then (some (-1)) else ((impl_bit.f true).bind fun A5=>(some A5))))=some r:=by rw [if_pos rfl] at H;exact H
  clear H;have H:=H1;clear H1;replace H:=ob H;obtain ⟨A7,A40,H⟩:=H;replace H:(if A7=true then (some (-1)) else ((impl_bit.f true).bind fun A5=>(some A5)))=some r:=H;have A4:=Aside0.mk A40;clear A40
  by_cases c5:A7=true
  ·subst c5
   have H1:(some (-1))=some r:=by rw [if_pos rfl] at H;exact H
   clear H;have H:=H1;clear H1;obtain rfl:=os H
   go_enter Try.func107,Try.ntmps107
   go_wp2_with (first|((with_reducible refine gate_dst (N:=1) rfl ?_);refine bx (N:=1) (cs:=#[.int .i64 Aa,.string A0]) (t:=29) ?_;intro A1 hg w6 hbox hb;have A3:=Aside0.mk (hbox);have Ab:=Aside0.mk ((by rw [hg];exact (below_size (tb HB)):w.heap.size≤A1));have Ac:=Aside0.mk ((by rw [hg];exact (below_size (tb HB)):w.heap.size≤A1));replace HB:=Aside0.mk (below_step (tb HB) hb);clear hb hbox hg;have hcz7__:=c2_ A3;have hfz7__:=f_ A3)|((with_reducible refine gate_callee (f:=125) rfl ?_);refine goesL_ (some 6) rfl rfl Try.func125 (by kernel_rfl) rfl #[.string A0,.string (⟨#[49]⟩:ByteArray)] rfl ml ?_;(with_reducible refine (strings_Contains.calls A0 (⟨#[49]⟩:ByteArray) true _ A2.out).mono ?_);rintro e w' ⟨rfl,⟨nd,rfl⟩⟩;refine ⟨_,rfl,?_⟩)|(go_at_call 125;(try simp only [i64_w,i32_w]);(with_reducible refine (strings_Contains.calls A0 (⟨#[48]⟩:ByteArray) true _ A4.out).mono ?_);rintro e w' ⟨rfl,⟨nd,rfl⟩⟩));go_ret;exact ⟨er,tb HB⟩
  ·replace c5:=Bool.eq_false_iff.mpr c5;subst c5
   have H1:((impl_bit.f true).bind fun A5=>(some A5))=some r:=by rw [if_neg (show ¬ (false=true) by decide)] at H;exact H
   clear H;have H:=H1;clear H1;replace H:=ob H;obtain ⟨A5,A80,H⟩:=H;replace H:(some A5)=some r:=H;have A8:=Aside0.mk A80;clear A80;obtain rfl:=os H
   go_enter Try.func107,Try.ntmps107
   go_wp2_with (first|((with_reducible refine gate_dst (N:=1) rfl ?_);refine bx (N:=1) (cs:=#[.int .i64 Aa,.string A0]) (t:=29) ?_;intro A1 hg w9 hbox hb;have A3:=Aside0.mk (hbox);have Ab:=Aside0.mk ((by rw [hg];exact (below_size (tb HB)):w.heap.size≤A1));have Ac:=Aside0.mk ((by rw [hg];exact (below_size (tb HB)):w.heap.size≤A1));replace HB:=Aside0.mk (below_step (tb HB) hb);clear hb hbox hg;have hcz10__:=c2_ A3;have hfz10__:=f_ A3)|((with_reducible refine gate_callee (f:=125) rfl ?_);refine goesL_ (some 6) rfl rfl Try.func125 (by kernel_rfl) rfl #[.string A0,.string (⟨#[49]⟩:ByteArray)] rfl ml ?_;(with_reducible refine (strings_Contains.calls A0 (⟨#[49]⟩:ByteArray) true _ A2.out).mono ?_);rintro e w' ⟨rfl,⟨nd,rfl⟩⟩;refine ⟨_,rfl,?_⟩)|(go_at_call 125;(try simp only [i64_w,i32_w]);(with_reducible refine (strings_Contains.calls A0 (⟨#[48]⟩:ByteArray) false _ A4.out).mono ?_);rintro e w' ⟨rfl,⟨nd,rfl⟩⟩)|((with_reducible refine gate_callee (f:=99) rfl ?_);refine goesL_ (some 14) rfl rfl Try.func99 (by kernel_rfl) rfl #[.bool true] rfl ml ?_;(with_reducible refine (impl_bit.calls true A5 _ A8.out).mono ?_);rintro e w' ⟨rfl,⟨nd,rfl⟩⟩;refine ⟨_,rfl,?_⟩));go_ret;exact ⟨er,tb HB⟩
 ·replace c3:=Bool.eq_false_iff.mpr c3;subst c3
  have H1:((impl_bit.f false).bind fun A9=>(some A9))=some r:=by rw [if_neg (show ¬ (false=true) by decide)] at H;exact H
  clear H;have H:=H1;clear H1;replace H:=ob H;obtain ⟨A9,A110,H⟩:=H;replace H:(some A9)=some r:=H;have A11:=Aside0.mk A110;clear A110;obtain rfl:=os H
  go_enter Try.func107,Try.ntmps107
  go_wp2_with (first|((with_reducible refine gate_dst (N:=1) rfl ?_);refine bx (N:=1) (cs:=#[.int .i64 Aa,.string A0]) (t:=29) ?_;intro A1 hg w12 hbox hb;have A3:=Aside0.mk (hbox);have Ab:=Aside0.mk ((by rw [hg];exact (below_size (tb HB)):w.heap.size≤A1));have Ac:=Aside0.mk ((by rw [hg];exact (below_size (tb HB)):w.heap.size≤A1));replace HB:=Aside0.mk (below_step (tb HB) hb);clear hb hbox hg;have hcz13__:=c2_ A3;have hfz13__:=f_ A3)|((with_reducible refine gate_callee (f:=125) rfl ?_);refine goesL_ (some 6) rfl rfl Try.func125 (by kernel_rfl) rfl #[.string A0,.string (⟨#[49]⟩:ByteArray)] rfl ml ?_;(with_reducible refine (strings_Contains.calls A0 (⟨#[49]⟩:ByteArray) false _ A2.out).mono ?_);rintro e w' ⟨rfl,⟨nd,rfl⟩⟩;refine ⟨_,rfl,?_⟩)|((with_reducible refine gate_callee (f:=99) rfl ?_);refine goesL_ (some 14) rfl rfl Try.func99 (by kernel_rfl) rfl #[.bool false] rfl ml ?_;(with_reducible refine (impl_bit.calls false A9 _ A11.out).mono ?_);rintro e w' ⟨rfl,⟨nd,rfl⟩⟩;refine ⟨_,rfl,?_⟩));go_ret;exact ⟨er,tb HB⟩
def impl_copyInts.f (l0:List Int):Option (List Int):=if ([]:List Int).length + l0.length < 17592186044416 then (some (([]:List Int) ++ l0)) else (none)
set_option maxHeartbeats 8000000 in
set_option maxRecDepth 100000 in
theorem impl_copyInts.calls (A0:Option Addr) (c0:Nat) (l0:List Int) (r:List Int) (w:World) (hr0:Kd.C (Kd.int .i64) w A0 l0.length l0) (hc0:l0.length≤c0) (h:impl_copyInts.f l0=some r) :
  Calls Try.prog 115 #[.slice A0 l0.length c0] w fun e w'=>∃ v0_:Value,e = .returned (v0_)∧Kd.R (Kd.int .i64) 3 w' w.heap.size (fun _=>True) v0_ r∧Below w.heap.size w w':=by
 have HR0:=Aside0.mk hr0;have HC0:=Aside0.mk hc0;clear hr0 hc0;have HB:=Aside0.mk (Below.refl w.heap.size w);have H:(if ([]:List Int).length + l0.length < 17592186044416 then (some (([]:List Int) ++ l0)) else (none))=some r:=h;clear h
 by_cases c2:([]:List Int).length + l0.length < 17592186044416
 ·rw [if_pos c2] at H;have LMc2:=Aside0.mk c2;clear c2;obtain ⟨y101,hy101⟩:∃ y_:List Int,y_=(([]:List Int) ++ l0):=⟨_,rfl⟩
  replace H:(some y101)=some r:=by first|(rw [hy101];with_reducible exact H)|(have H2_:=(Option.bind_some _ _).symm.trans H;rw [hy101];with_reducible exact H2_)|(have H2_:=(Option.bind_some _ _).symm.trans H;with_reducible exact H2_)|with_reducible exact H|(rw [hy101];exact H)|exact H
  have Ny101:=Aside0.mk hy101;clear hy101;obtain rfl:=os H
  go_enter Try.func115,Try.ntmps115
  go_wp2_with (first|((with_reducible refine gate_builtin (b := .append) (xs:=#[.const (.slice none 0 0),.tmp 3]) rfl ?_);at_builtin;refine Kd.R_append_rows (Kd.int .i64) (w0:=w) w.heap.size rfl (.const (.slice none 0 0)) (.tmp 3) 33 3 (.int .i64 0) 8 rfl Try.underlying33 info3 rfl (by decide) (by omega) (.slice none 0 0) ([]:List Int) l0 _ _ _ (fun _=>True) (fun _=>False) rfl rfl ?aO ?aR (fun _ _ h=>h) (fun _ h=>h.elim) ?aF ?aB ?aS ?aL ?_;(case aR=>exact cw HR0.out);(case aB=>exact (tb HB));(case aF=>exact (fun _ _=>trivial));(case aO=>exact ((Kd.R_nil _ _ _ _ (fun _=>True))));(case aS=>exact (below_size (tb HB)));(case aL=>have:=LMc2.out;omega);intro v102 w3 ho hb hg hat;rw [← Ny101.out] at ho;replace HB:=Aside0.mk (hb);have A1:=Aside0.mk (ho);clear ho hb hg hat));go_ret;exact ⟨_,er,ra A1,tb HB⟩
 ·rw [if_neg c2] at H;exact absurd H (by simp)
def impl_digits.l0:Nat→Int→ByteArray→Option (ByteArray)
 | 0,_,_=>none
 | k + 1,x0,x3=>if x3.toList=([]:List UInt8) then ((some (([(IntKind.u64.wrap (48 + (Int.tmod x0 10))) % 256]:List Int):List Int)).bind fun y101=>(if (strOfNums y101).size + x3.size≤9223372036854775807 then (impl_digits.l0 k (IntKind.u64.wrap (Int.tdiv x0 10)) ((strOfNums y101) ++ x3)) else (none))) else (if x0 > 0 then ((some (([(IntKind.u64.wrap (48 + (Int.tmod x0 10))) % 256]:List Int):List Int)).bind fun y104=>(if (strOfNums y104).size + x3.size≤9223372036854775807 then (impl_digits.l0 k (IntKind.u64.wrap (Int.tdiv x0 10)) ((strOfNums y104) ++ x3)) else (none))) else (some x3))
def impl_digits.f (k:Nat) (a0:Int):Option (ByteArray):=impl_digits.l0 k a0 (⟨#[]⟩:ByteArray)
set_option maxHeartbeats 8000000 in
set_option maxRecDepth 100000 in
theorem impl_digits.calls (k:Nat) (a0:Int) (r:ByteArray) (w:World) (h:impl_digits.f k a0=some r) :
  Calls Try.prog 131 #[.int .u64 a0] w fun e w'=>e = .returned (.string r)∧Below w.heap.size w w':=by
 have HB:=Aside0.mk (Below.refl w.heap.size w);have H:(impl_digits.l0 k a0 (⟨#[]⟩:ByteArray))=some r:=h;clear h;have H':=Aside0.mk H;clear H
 go_enter Try.func131,Try.ntmps131
 go_wp2
 go_loopg [0,3] k (fun kq v0 v3 w'=>∃ (A0:Int) (A1:ByteArray),v0 = .int .u64 A0∧v3 = .string A1∧Aside0 (impl_digits.l0 kq A0 A1=some r)∧Aside0 (kq≤k)∧Aside0 (Below w.heap.size w w'))
 case atStart=>exact ⟨(a0),((⟨#[]⟩:ByteArray)),(by first|rfl|(simp;done)|(simp [*];done)),(by first|rfl|(simp;done)|(simp [*];done)),H',⟨Nat.le_refl _⟩,⟨by exact tb HB⟩⟩
 case round =>
  clear H';(try clear c1);obtain ⟨A0,A1,rfl,rfl,HA,HK1,HB⟩:=hrel
  cases gk with
  | zero=>exact absurd HA.out (by simp [impl_digits.l0])
  | succ k1 =>
   have H:=HA.out;clear HA;simp only [impl_digits.l0] at H
   by_cases c2:A1.toList=([]:List UInt8)
   ·rw [if_pos c2] at H;have c2b0:(A1.toList == ([]:List UInt8))=true:=beq_iff_eq.mpr c2;have c2b1:(A1.toList != ([]:List UInt8))=false:=bne_eq_false_iff_eq.mpr c2;clear c2;obtain ⟨y101,hy101⟩:∃ y_:List Int,y_=(([(IntKind.u64.wrap (48 + (Int.tmod A0 10))) % 256]:List Int)):=⟨_,rfl⟩
    replace H:(if (strOfNums y101).size + A1.size≤9223372036854775807 then (impl_digits.l0 k1 (IntKind.u64.wrap (Int.tdiv A0 10)) ((strOfNums y101) ++ A1)) else (none))=some r:=by first|(rw [hy101];with_reducible exact H)|(have H2_:=(Option.bind_some _ _).symm.trans H;rw [hy101];with_reducible exact H2_)|(have H2_:=(Option.bind_some _ _).symm.trans H;with_reducible exact H2_)|with_reducible exact H|(rw [hy101];exact H)|exact H
    have Ny101:=Aside0.mk hy101;clear hy101
    by_cases c3:(strOfNums y101).size + A1.size≤9223372036854775807
    ·rw [if_pos c3] at H;have c3b0:=eq_true c3;have c3b1:decide ((strOfNums y101).size + A1.size≤9223372036854775807)=true:=decide_eq_true c3
     try have c3b2:(9223372036854775807 < (strOfNums y101).size + A1.size)=False:=eq_false (Nat.not_lt.2 c3)
     have H':=Aside0.mk H;clear H;go_wp2_with (first|((with_reducible refine gate_dst (N:=16) rfl ?_);refine Kd.R_lit (Kd.int .u8) _ 5 ?hg (N:=16) ?hd (xs:=([(IntKind.u64.wrap (48 + (Int.tmod A0 10))) % 256]:List Int)) (inner:=[.int .u8 ((IntKind.u64.wrap (48 + (Int.tmod A0 10))) % 256)]) (ok:=fun _=>True) (okp:=fun _=>True) ?hr ?hp (fun _ hk=>hk) trivial (Below.refl _ _) (Nat.le_refl _) (by simp) ?_;(case hd=>rfl);(case hg=>rfl);(case hr=>first|(go_simp;done)|(go_simp;rfl));(case hp=>exact (Reps.one (show Kd.M (Kd.int .u8) _ _ _ ((IntKind.u64.wrap (48 + (Int.tmod A0 10))) % 256) [.int .u8 ((IntKind.u64.wrap (48 + (Int.tmod A0 10))) % 256)] from rfl) (Reps.none _ _)));intro v102 w4 ho5 hb hg_ hnew_;clear hg_ hnew_;(first|rw [← Ny101.out] at ho5|(simp only [Int.reduceToNat] at ho5;rw [← Ny101.out] at ho5));have A2:=Aside0.mk (Kd.R_lower ho5 (below_size (tb HB)));replace HB:=Aside0.mk (below_step (tb HB) hb);clear hb ho5;have hcv6:=own_string (P:=Try.prog) Try.underlying57 Try.underlying5 Try.underlying9 (Kd.own_of_R A2.out)));go_roundg k1
     case measure=>have:=HK1.out;omega
     case rel=>exact ⟨(IntKind.u64.wrap (Int.tdiv A0 10)),((strOfNums y101) ++ A1),(by first|rfl|(simp;done)|(simp [*];done)),(by first|rfl|(simp;done)|(simp [*];done)),H',⟨by have:=HK1.out;omega⟩,⟨by exact tb HB⟩⟩
    ·rw [if_neg c3] at H;exact absurd H (by simp)
   ·rw [if_neg c2] at H;have c2b0:(A1.toList == ([]:List UInt8))=false:=beq_eq_false_iff_ne.mpr c2;have c2b1:(A1.toList != ([]:List UInt8))=true:=bne_iff_ne.mpr c2
    by_cases c7:A0 > 0
    ·rw [if_pos c7] at H;have c7b0:decide (0 < A0)=true:=decide_eq_true c7;clear c7;obtain ⟨y104,hy104⟩:∃ y_:List Int,y_=(([(IntKind.u64.wrap (48 + (Int.tmod A0 10))) % 256]:List Int)):=⟨_,rfl⟩
     replace H:(if (strOfNums y104).size + A1.size≤9223372036854775807 then (impl_digits.l0 k1 (IntKind.u64.wrap (Int.tdiv A0 10)) ((strOfNums y104) ++ A1)) else (none))=some r:=by first|(rw [hy104];with_reducible exact H)|(have H2_:=(Option.bind_some _ _).symm.trans H;rw [hy104];with_reducible exact H2_)|(have H2_:=(Option.bind_some _ _).symm.trans H;with_reducible exact H2_)|with_reducible exact H|(rw [hy104];exact H)|exact H
     have Ny104:=Aside0.mk hy104;clear hy104
     by_cases c8:(strOfNums y104).size + A1.size≤9223372036854775807
     ·rw [if_pos c8] at H;have c8b0:=eq_true c8;have c8b1:decide ((strOfNums y104).size + A1.size≤9223372036854775807)=true:=decide_eq_true c8
      try have c8b2:(9223372036854775807 < (strOfNums y104).size + A1.size)=False:=eq_false (Nat.not_lt.2 c8)
      have H':=Aside0.mk H;clear H;go_wp2_with (first|((with_reducible refine gate_dst (N:=16) rfl ?_);refine Kd.R_lit (Kd.int .u8) _ 5 ?hg (N:=16) ?hd (xs:=([(IntKind.u64.wrap (48 + (Int.tmod A0 10))) % 256]:List Int)) (inner:=[.int .u8 ((IntKind.u64.wrap (48 + (Int.tmod A0 10))) % 256)]) (ok:=fun _=>True) (okp:=fun _=>True) ?hr ?hp (fun _ hk=>hk) trivial (Below.refl _ _) (Nat.le_refl _) (by simp) ?_;(case hd=>rfl);(case hg=>rfl);(case hr=>first|(go_simp;done)|(go_simp;rfl));(case hp=>exact (Reps.one (show Kd.M (Kd.int .u8) _ _ _ ((IntKind.u64.wrap (48 + (Int.tmod A0 10))) % 256) [.int .u8 ((IntKind.u64.wrap (48 + (Int.tmod A0 10))) % 256)] from rfl) (Reps.none _ _)));intro v105 w9 ho10 hb hg_ hnew_;clear hg_ hnew_;(first|rw [← Ny104.out] at ho10|(simp only [Int.reduceToNat] at ho10;rw [← Ny104.out] at ho10));have A3:=Aside0.mk (Kd.R_lower ho10 (below_size (tb HB)));replace HB:=Aside0.mk (below_step (tb HB) hb);clear hb ho10;have hcv11:=own_string (P:=Try.prog) Try.underlying57 Try.underlying5 Try.underlying9 (Kd.own_of_R A3.out)));go_roundg k1
      case measure=>have:=HK1.out;omega
      case rel=>exact ⟨(IntKind.u64.wrap (Int.tdiv A0 10)),((strOfNums y104) ++ A1),(by first|rfl|(simp;done)|(simp [*];done)),(by first|rfl|(simp;done)|(simp [*];done)),H',⟨by have:=HK1.out;omega⟩,⟨by exact tb HB⟩⟩
     ·rw [if_neg c8] at H;exact absurd H (by simp)
    ·rw [if_neg c7] at H;have c7b0:decide (0 < A0)=false:=decide_eq_false c7;clear c7;obtain rfl:=os H;go_wp2;go_ret;exact ⟨er,tb HB⟩
def impl_decimal.f (k:Nat) (a0:Int):Option (ByteArray):=if a0 < 0 then ((impl_digits.f k (IntKind.u64.wrap ((IntKind.u64.wrap (wrap64 (-(wrap64 (a0 + 1))))) + 1))).bind fun A0=>(if 1 + A0.size≤9223372036854775807 then (some ((⟨#[45]⟩:ByteArray) ++ A0)) else (none))) else ((impl_digits.f k (IntKind.u64.wrap (a0))).bind fun A1=>(some A1))
set_option maxHeartbeats 8000000 in
set_option maxRecDepth 100000 in
theorem impl_decimal.calls (k:Nat) (a0:Int) (r:ByteArray) (w:World) (h:impl_decimal.f k a0=some r) :
  Calls Try.prog 122 #[.int .i64 a0] w fun e w'=>e = .returned (.string r)∧Below w.heap.size w w':=by
 have HB:=Aside0.mk (Below.refl w.heap.size w);have H:(if a0 < 0 then ((impl_digits.f k (IntKind.u64.wrap ((IntKind.u64.wrap (wrap64 (-(wrap64 (a0 + 1))))) + 1))).bind fun A0=>(if 1 + A0.size≤9223372036854775807 then (some ((⟨#[45]⟩:ByteArray) ++ A0)) else (none))) else ((impl_digits.f k (IntKind.u64.wrap (a0))).bind fun A1=>(some A1)))=some r:=h;clear h
 by_cases c2:a0 < 0
 ·rw [if_pos c2] at H;have c2b0:decide (a0 < 0)=true:=decide_eq_true c2;clear c2;replace H:=ob H;obtain ⟨A0,A30,H⟩:=H;replace H:(if 1 + A0.size≤9223372036854775807 then (some ((⟨#[45]⟩:ByteArray) ++ A0)) else (none))=some r:=H;have A3:=Aside0.mk A30;clear A30
  by_cases c4:1 + A0.size≤9223372036854775807
  ·rw [if_pos c4] at H;have c4b0:=eq_true c4;have c4b1:decide (1 + A0.size≤9223372036854775807)=true:=decide_eq_true c4
   try have c4b2:(9223372036854775807 < 1 + A0.size)=False:=eq_false (Nat.not_lt.2 c4)
   obtain rfl:=os H
   go_enter Try.func122,Try.ntmps122
   go_wp2_with (first|((with_reducible refine gate_callee (f:=131) rfl ?_);refine goesL_ (some 10) rfl rfl Try.func131 (by kernel_rfl) rfl #[.int .u64 (IntKind.u64.wrap ((IntKind.u64.wrap (wrap64 (-(wrap64 (a0 + 1))))) + 1))] rfl ml ?_;(with_reducible refine (impl_digits.calls k (IntKind.u64.wrap ((IntKind.u64.wrap (wrap64 (-(wrap64 (a0 + 1))))) + 1)) A0 _ A3.out).mono ?_);rintro e w5 ⟨rfl,hb⟩;refine ⟨_,rfl,?_⟩;replace HB:=Aside0.mk (below_step (tb HB) hb);(try clear hb);(try clear hb2);(try clear hk);(try clear hi)));go_ret;exact ⟨er,tb HB⟩
  ·rw [if_neg c4] at H;exact absurd H (by simp)
 ·rw [if_neg c2] at H;have c2b0:decide (a0 < 0)=false:=decide_eq_false c2;clear c2;replace H:=ob H;obtain ⟨A1,A60,H⟩:=H;replace H:(some A1)=some r:=H;have A6:=Aside0.mk A60;clear A60;obtain rfl:=os H
  go_enter Try.func122,Try.ntmps122
  go_wp2_with (first|((with_reducible refine gate_callee (f:=131) rfl ?_);refine goesL_ (some 14) rfl rfl Try.func131 (by kernel_rfl) rfl #[.int .u64 (IntKind.u64.wrap (a0))] rfl ml ?_;(with_reducible refine (impl_digits.calls k (IntKind.u64.wrap (a0)) A1 _ A6.out).mono ?_);rintro e w7 ⟨rfl,hb⟩;refine ⟨_,rfl,?_⟩;replace HB:=Aside0.mk (below_step (tb HB) hb);(try clear hb);(try clear hb2);(try clear hk);(try clear hi)));go_ret;exact ⟨er,tb HB⟩
def impl_valsKey.l0:Nat→ByteArray→List Int→Int→Int→Option (ByteArray)
 | 0,_,_,_,_=>none
 | k + 1,x3,x6,x7,x8=>if x8 < x7 then (if 0≤x8 then (if x8 < (x6.length:Int) then ((impl_decimal.f k (rd x6 x8)).bind fun A2=>(if x3.size + A2.size≤9223372036854775807 then (if x3.size + A2.size + 1≤9223372036854775807 then (impl_valsKey.l0 k ((x3 ++ A2) ++ (⟨#[32]⟩:ByteArray)) x6 x7 (wrap64 (x8 + 1))) else (none)) else (none))) else (none)) else (none)) else (some x3)
def impl_valsKey.f (k:Nat) (l0:List Int):Option (ByteArray):=impl_valsKey.l0 k (⟨#[]⟩:ByteArray) l0 (l0.length:Int) 0
set_option maxHeartbeats 8000000 in
set_option maxRecDepth 100000 in
theorem impl_valsKey.calls (k:Nat) (A0:Option Addr) (c0:Nat) (l0:List Int) (r:ByteArray) (w:World) (hr0:Kd.C (Kd.int .i64) w A0 l0.length l0) (hc0:l0.length≤c0) (h:impl_valsKey.f k l0=some r) :
  Calls Try.prog 98 #[.slice A0 l0.length c0] w fun e w'=>e = .returned (.string r)∧Below w.heap.size w w':=by
 have HR0:=Aside0.mk hr0;have HC0:=Aside0.mk hc0;clear hr0 hc0;have HB:=Aside0.mk (Below.refl w.heap.size w);have H:(impl_valsKey.l0 k (⟨#[]⟩:ByteArray) l0 (l0.length:Int) 0)=some r:=h;clear h;have H':=Aside0.mk H;clear H
 go_enter Try.func98,Try.ntmps98
 go_wp2
 go_loopg [3,8] k (fun kq v3 v8 w'=>∃ (A3:ByteArray) (A1:Int),v3 = .string A3∧v8 = .int .i64 A1∧Aside0 (impl_valsKey.l0 kq A3 l0 (l0.length:Int) A1=some r)∧Aside0 (kq≤k)∧Aside0 (Below w.heap.size w w'))
 case atStart=>exact ⟨((⟨#[]⟩:ByteArray)),(0),(by first|rfl|(simp;done)|(simp [*];done)),(by first|rfl|(simp;done)|(simp [*];done)),H',⟨Nat.le_refl _⟩,⟨by exact tb HB⟩⟩
 case round =>
  clear H';obtain ⟨A3,A1,rfl,rfl,HA,HK1,HB⟩:=hrel
  cases gk with
  | zero=>exact absurd HA.out (by simp [impl_valsKey.l0])
  | succ k1 =>
   have H:=HA.out;clear HA;simp only [impl_valsKey.l0] at H
   by_cases c2:A1 < (l0.length:Int)
   ·rw [if_pos c2] at H;have c2b0:decide (A1 < (l0.length:Int))=true:=decide_eq_true c2;clear c2
    by_cases c3:0≤A1
    ·rw [if_pos c3] at H;have c3b0:decide (0≤A1)=true:=decide_eq_true c3;clear c3
     by_cases c4:A1 < (l0.length:Int)
     ·rw [if_pos c4] at H;have c4b0:decide (A1 < (l0.length:Int))=true:=decide_eq_true c4;clear c4;replace H:=ob H;obtain ⟨A2,A50,H⟩:=H
      try dsimp only at H
      have A5:=Aside0.mk A50;clear A50
      by_cases c6:A3.size + A2.size≤9223372036854775807
      ·rw [if_pos c6] at H;have c6b0:=eq_true c6;have c6b1:decide (A3.size + A2.size≤9223372036854775807)=true:=decide_eq_true c6
       try have c6b2:(9223372036854775807 < A3.size + A2.size)=False:=eq_false (Nat.not_lt.2 c6)
       by_cases c7:A3.size + A2.size + 1≤9223372036854775807
       ·rw [if_pos c7] at H;have c7b0:=eq_true c7;have c7b1:decide (A3.size + A2.size + 1≤9223372036854775807)=true:=decide_eq_true c7
        try have c7b2:(9223372036854775807 < A3.size + A2.size + 1)=False:=eq_false (Nat.not_lt.2 c7)
        have H':=Aside0.mk H;clear H;have p101:0≤(A1:Int):=od;have q101:A1 < (l0.length:Int):=od;obtain ⟨ad101,e101,hx101_0⟩:=Kd.at_int HR0.out A1 p101 q101;cases e101;replace hx101_0:=ct HB hx101_0;replace p101:=eq_true p101;replace q101:=eq_true q101;go_wp2_with (first|((with_reducible refine gate_callee (f:=122) rfl ?_);refine goesL_ (some 14) rfl rfl Try.func122 (by kernel_rfl) rfl #[.int .i64 (rd l0 A1)] rfl ml ?_;(with_reducible refine (impl_decimal.calls k1 (rd l0 A1) A2 _ A5.out).mono ?_);rintro e w8 ⟨rfl,hb⟩;refine ⟨_,rfl,?_⟩;replace HB:=Aside0.mk (below_step (tb HB) hb);(try clear hb);(try clear hb2);(try clear hk);(try clear hi)));go_roundg k1
        case measure=>have:=HK1.out;omega
        case rel=>exact ⟨((A3 ++ A2) ++ (⟨#[32]⟩:ByteArray)),(wrap64 (A1 + 1)),(by first|rfl|(simp;done)|(simp [*];done)),(by first|rfl|(simp;done)|(simp [*];done)),H',⟨by have:=HK1.out;omega⟩,⟨by exact tb HB⟩⟩
       ·rw [if_neg c7] at H;exact absurd H (by simp)
      ·rw [if_neg c6] at H;exact absurd H (by simp)
     ·rw [if_neg c4] at H;exact absurd H (by simp)
    ·rw [if_neg c3] at H;exact absurd H (by simp)
   ·rw [if_neg c2] at H;have c2b0:decide (A1 < (l0.length:Int))=false:=decide_eq_false c2;clear c2;obtain rfl:=os H;go_wp2;go_ret;exact ⟨er,tb HB⟩
end Go.Proofs.Ytlpfmhikahlcoaa.G
