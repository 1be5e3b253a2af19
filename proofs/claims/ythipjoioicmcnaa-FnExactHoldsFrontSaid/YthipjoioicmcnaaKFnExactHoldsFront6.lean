-- texts of this session, merged by a program of it (wip/gen/pack.py)
import Derived.Test.YthipjoioicmcnaaKFnExactHoldsFront1
import Derived.Test.YthipjoioicmcnaaKFnExactHoldsFront2
import Derived.Test.YthipjoioicmcnaaKFnExactHoldsFront3
import Derived.Test.YthipjoioicmcnaaKFnExactHoldsFront5
namespace Go.Proofs.Ythipjoioicmcnaa.G
open Go.Proofs.Ythipjoioicmcnaa.Sh
open Go.RowKit Go.Proofs.YthipjoioicmcnaaW.PrintWords Go.Proofs.YthipjoioicmcnaaW.PrintLast Go.Proofs.YthipjoioicmcnaaW.PrintMore
attribute [local go_sem] max2_int min2_int max_two min_two max_three min_three max_four min_four
set_option linter.unusedVariables false
set_option linter.unusedSimpArgs false
section
variable {W:World} {g n c go ck b:Nat} {A:Option Addr} {t:TypeId} {xs kn:List Int} {ok:Nat→Prop}
def vcells (A:Option Addr) (n c:Nat) (xs:List Int):Array Value:=(Value.slice A n c :: nums .i64 xs).toArray
theorem v_row (h:W.heap[g]? = some (.cells (vcells A n c xs) t (0,0))):W.cell? ⟨g,0,none⟩=some (.slice A n c):=(blk_cell h 0).trans rfl
theorem v_cell (h:W.heap[g]? = some (.cells (vcells A n c xs) t (0,0))) (i:Int) (h0:0≤i) (h1:i < (xs.length:Int)):W.cell? ⟨g,1 + i.toNat,none⟩=some (.int .i64 (rd xs i)):=by
 rw [blk_cell h];rw [Nat.add_comm]
 simp [vcells,nums,rd,List.getD_eq_getElem?_getD,List.getElem?_eq_getElem (show i.toNat < xs.length by omega)]
theorem v_put (h:W.heap[g]? = some (.cells (vcells A n c xs) t (0,0))) (j:Nat) (v:Int):(W.setCell ⟨g,1 + j,none⟩ (.int .i64 v)).heap[g]? = some (.cells (vcells A n c (xs.set j v)) t (0,0)) :=
 blk_put h (1 + j) _ (by rw [Nat.add_comm];simp [vcells,nums,List.map_set])
theorem kn_get (h:Kd.R (Kd.int .i64) 3 W b ok (.slice (some ⟨go,0,none⟩) n c) kn) (i:Int) (h0:0≤i) (h1:i < n):W.cell? ⟨go,i.toNat,none⟩=some (.int .i64 (rd kn i))∧W.frozen? ⟨go,i.toNat,none⟩=false:=Kd.R_celln (0:Int) h i h0 h1
theorem kn_put (h:Kd.R (Kd.int .i64) 3 W b ok (.slice (some ⟨go,0,none⟩) n c) kn) (i:Int) (v:Int):Kd.R (Kd.int .i64) 3 (W.setCell ⟨go,i.toNat,none⟩ (.int .i64 v)) b ok (.slice (some ⟨go,0,none⟩) n c) (kn.set i.toNat v)∧W.grownBy (W.setCell ⟨go,i.toNat,none⟩ (.int .i64 v)) (some go):=Kd.R_putg h i v
theorem gr_below {w W':World} {row:Option Nat} (h:w.grownBy W row) (hb:Below w.heap.size W W'):w.grownBy W' row :=
 ⟨hb.os.trans h.os,hb.tape.trans h.tape,hb.output.trans h.output,Nat.le_trans h.size hb.size,fun k hk hr=>(hb.block k hk).trans (h.block k hk hr)⟩
theorem gr_up {w W':World} {row:Option Nat} (h:w.grownBy W row) (hb:Below W.heap.size W W'):w.grownBy W' row :=
 ⟨hb.os.trans h.os,hb.tape.trans h.tape,hb.output.trans h.output,Nat.le_trans h.size hb.size,fun k hk hr=>(hb.block k (Nat.lt_of_lt_of_le hk h.size)).trans (h.block k hk hr)⟩
theorem below_gr {w0 W':World} (h:Below b w0 W) (hg:W.grownBy W' (some go)) (hb:b≤go) (hs:b≤W.heap.size):Below b w0 W':=pw_below_grown h _ hs hg (fun k e=>by injection e with e;omega)
theorem kn_base (h:Kd.R (Kd.int .i64) 3 W b ok (.slice (some ⟨go,0,none⟩) n c) kn) (i:Int) (h0:0≤i) (h1:i < n):b≤go∧go < W.heap.size:=by
 have hl:=(Kd.R_reads' h).1;obtain ⟨g2,c2,e,h2,h3,_⟩:=Kd.R_form h (by omega);cases e;exact ⟨h2,h3⟩
end
mutual
def vaF:Nat→List S99→List Int→Int→List Int→Option (Int × List Int)
 | 0,_,_,_,_=>none
 | k + 1,l,xs,i,kn=>if 0≤i∧i < (kn.length:Int) then (if 0≤rd kn i then some (rd kn i,kn) else
   (if i < (l.length:Int) then (if (rd_T99 l i).f0=1 then (if 0≤(rd_T99 l i).f2∧(rd_T99 l i).f2 < (xs.length:Int) then some (rd xs (rd_T99 l i).f2,kn.set i.toNat (rd xs (rd_T99 l i).f2)) else none)
   else (impl_isQuant.f (rd_T99 l i).f0 (rd_T99 l i).f1 (rd_T99 l i).f2 (rd_T99 l i).f3 (rd_T99 l i).f4 (rd_T99 l i).f5).bind fun t=>if t=true then none else (impl_Parts.f k (rd_T99 l i).f0 (rd_T99 l i).f1 (rd_T99 l i).f2 (rd_T99 l i).f3 (rd_T99 l i).f4 (rd_T99 l i).f5).bind fun ps=>(vaL k l xs ps kn 0 1 0 0 0).bind fun q=>(impl_Apply.f k (rd_T99 l i).f0 (rd_T99 l i).f1 (rd_T99 l i).f2 (rd_T99 l i).f3 (rd_T99 l i).f4 (rd_T99 l i).f5 q.2.1 q.2.2.1 q.2.2.2.1 q.2.2.2.2).bind fun v=>some (v,q.1.set i.toNat v)) else none)) else none
def vaL:Nat→List S99→List Int→List Int→List Int→Int→Int→Int→Int→Int→Option (List Int × Int × Int × Int × Int)
 | 0,_,_,_,_,_,_,_,_,_=>none
 | k + 1,l,xs,ps,kn,j,wd,x0,x1,x2=>if j < (ps.length:Int) then (if 0≤j then (vaF k l xs (rd ps j) kn).bind fun q =>
   if j=0 then (if 0≤rd ps 0∧rd ps 0 < (l.length:Int) then vaL k l xs ps q.2 1 (rd_T99 l (rd ps 0)).f1 q.1 x1 x2 else none) else if j=1 then vaL k l xs ps q.2 2 wd x0 q.1 x2 else if j=2 then vaL k l xs ps q.2 3 wd x0 x1 q.1 else none else none) else some (kn,wd,x0,x1,x2)
end
set_option maxHeartbeats 8000000 in
set_option maxRecDepth 100000 in
theorem value_calls (l:List S99) (A:Option Addr) (c:Nat) (hc:l.length≤c) (xs:List Int) (hx8:xs.length=8) (w0:World) (hl0:Kd.C k99 w0 A l.length l) (gv go n ck:Nat):∀ (k:Nat) (i:Int) (kn:List Int) (r:Int × List Int) (w:World) (hb0:Below w0.heap.size w0 w) (hbk:w.heap[gv]? = some (.cells (vcells A l.length c xs) 105 (0,0))) (hk0:Kd.R (Kd.int .i64) 3 w w0.heap.size (fun _=>True) (.slice (some ⟨go,0,none⟩) n ck) kn) (h:vaF k l xs i kn=some r),
  Calls Try.prog 89 #[.pointer (some ⟨gv,0,none⟩),.int .i64 i,.slice (some ⟨go,0,none⟩) n ck] w fun e w'=>e = .returned (.int .i64 r.1)∧Kd.R (Kd.int .i64) 3 w' w0.heap.size (fun _=>True) (.slice (some ⟨go,0,none⟩) n ck) r.2∧w.grownBy w' (some go)∧Below w0.heap.size w0 w':=by
 intro k
 induction k using Nat.strongRecOn with|ind k ih =>
 intro i kn r w hb0 hbk hk0 h;have HL0:=Aside0.mk hl0;have HC0:=Aside0.mk hc;have HB0:=Aside0.mk hb0;have BV0:=Aside0.mk hbk;have HK0:=Aside0.mk hk0;have IH:=Aside0.mk ih;have X8:=Aside0.mk hx8;clear hl0 hc hb0 hbk hk0 ih hx8
 cases k with
 | zero=>exact absurd h (by simp [vaF])
 | succ k1 =>
 simp only [vaF] at h;have hkl:=(Kd.R_reads' HK0.out).1;rw [← hkl] at h
 by_cases c1:0≤i∧i < (n:Int)
 case neg=>rw [if_neg c1] at h;cases h
 rw [if_pos c1] at h;have C1:=Aside0.mk c1;obtain ⟨GB,GL⟩:=kn_base HK0.out i c1.1 c1.2;replace GB:=Aside0.mk GB;replace GL:=Aside0.mk GL;obtain ⟨hk1,hf1⟩:=kn_get HK0.out i c1.1 c1.2;clear hkl;obtain ⟨c1,c2⟩:=c1;have d1:decide (0≤i)=true:=decide_eq_true c1;have d2:decide (i < (n:Int))=true:=decide_eq_true c2;replace c1:=eq_true c1;replace c2:=eq_true c2
 by_cases c3:0≤rd kn i
 ·rw [if_pos c3] at h;obtain rfl:=Option.some.inj h;clear h;have d3:decide (0≤rd kn i)=true:=decide_eq_true c3;clear c3
  go_enter Try.func89,Try.ntmps89
  go_wp2;go_ret;exact ⟨rfl,HK0.out,World.grownBy.refl _ _,HB0.out⟩
 rw [if_neg c3] at h;have d3:decide (0≤rd kn i)=false:=decide_eq_false c3;clear c3
 by_cases c4:i < (l.length:Int)
 case neg=>rw [if_neg c4] at h;cases h
 rw [if_pos c4] at h;obtain ⟨ad,e_,hx0,hx1,hx2,hx3,hx4,hx5⟩:=at_T99 HL0.out i C1.out.1 c4;cases e_;replace hx0:=ct HB0 hx0;replace hx1:=ct HB0 hx1;replace hx2:=ct HB0 hx2;replace hx3:=ct HB0 hx3;replace hx4:=ct HB0 hx4;replace hx5:=ct HB0 hx5;have d4:decide (i < (l.length:Int))=true:=decide_eq_true c4;replace c4:=eq_true c4;have hv0:=v_row BV0.out
 by_cases c5:(rd_T99 l i).f0=1
 ·rw [if_pos c5] at h;have d5:((rd_T99 l i).f0 == 1)=true:=beq_iff_eq.2 c5;clear c5
  by_cases c8:0≤(rd_T99 l i).f2∧(rd_T99 l i).f2 < (xs.length:Int)
  case neg=>rw [if_neg c8] at h;cases h
  rw [if_pos c8] at h;obtain rfl:=Option.some.inj h;clear h;have C8:=Aside0.mk c8;obtain ⟨c8,c9⟩:=c8;rw [X8.out] at c9;replace c8:=eq_true c8;replace c9:((rd_T99 l i).f2 < 8)=True:=eq_true c9
  go_enter Try.func89,Try.ntmps89
  go_wp2_with (first|((with_reducible refine gate_dst (N:=7) rfl ?_);refine bx (N:=7) (cs:=#[.int .i64 0,.int .i64 0,.int .i64 0,.int .i64 0,.int .i64 0,.int .i64 0]) (t:=99) ?_;intro gn hg w1 hbox hb;have BN0:=Aside0.mk hbox;have HX0:=Aside0.mk hb;have GN:=Aside0.mk (show w.heap.size≤gn by rw [hg];exact Nat.le_refl _);have hz0:w1.cell? ⟨gn,0,none⟩=some (.int .i64 0):=(blk_cell BN0.out 0).trans rfl;have hfz0:=blk_frozen BN0.out 0;have hz1:w1.cell? ⟨gn,1,none⟩=some (.int .i64 0):=(blk_cell BN0.out 1).trans rfl;have hfz1:=blk_frozen BN0.out 1;have hz2:w1.cell? ⟨gn,2,none⟩=some (.int .i64 0):=(blk_cell BN0.out 2).trans rfl;have hfz2:=blk_frozen BN0.out 2;have hz3:w1.cell? ⟨gn,3,none⟩=some (.int .i64 0):=(blk_cell BN0.out 3).trans rfl;have hfz3:=blk_frozen BN0.out 3;have hz4:w1.cell? ⟨gn,4,none⟩=some (.int .i64 0):=(blk_cell BN0.out 4).trans rfl;have hfz4:=blk_frozen BN0.out 4;have hz5:w1.cell? ⟨gn,5,none⟩=some (.int .i64 0):=(blk_cell BN0.out 5).trans rfl;have hfz5:=blk_frozen BN0.out 5;clear hg hbox hb));have hb6:Below w.heap.size w ((((((w1.setCell ⟨gn,0,none⟩ (.int .i64 (rd_T99 l i).f0)).setCell ⟨gn,1,none⟩ (.int .i64 (rd_T99 l i).f1)).setCell ⟨gn,2,none⟩ (.int .i64 (rd_T99 l i).f2)).setCell ⟨gn,3,none⟩ (.int .i64 (rd_T99 l i).f3)).setCell ⟨gn,4,none⟩ (.int .i64 (rd_T99 l i).f4)).setCell ⟨gn,5,none⟩ (.int .i64 (rd_T99 l i).f5)):=below_set (below_set (below_set (below_set (below_set (below_set (HX0.out) GN.out) GN.out) GN.out) GN.out) GN.out) GN.out;have BN:Aside0 (((((((w1.setCell ⟨gn,0,none⟩ (.int .i64 (rd_T99 l i).f0)).setCell ⟨gn,1,none⟩ (.int .i64 (rd_T99 l i).f1)).setCell ⟨gn,2,none⟩ (.int .i64 (rd_T99 l i).f2)).setCell ⟨gn,3,none⟩ (.int .i64 (rd_T99 l i).f3)).setCell ⟨gn,4,none⟩ (.int .i64 (rd_T99 l i).f4)).setCell ⟨gn,5,none⟩ (.int .i64 (rd_T99 l i).f5)).heap[gn]? = some (.cells #[.int .i64 (rd_T99 l i).f0,.int .i64 (rd_T99 l i).f1,.int .i64 (rd_T99 l i).f2,.int .i64 (rd_T99 l i).f3,.int .i64 (rd_T99 l i).f4,.int .i64 (rd_T99 l i).f5] 99 (0,0))):=⟨blk_put (cs:=#[.int .i64 (rd_T99 l i).f0,.int .i64 (rd_T99 l i).f1,.int .i64 (rd_T99 l i).f2,.int .i64 (rd_T99 l i).f3,.int .i64 (rd_T99 l i).f4,.int .i64 0]) (blk_put (cs:=#[.int .i64 (rd_T99 l i).f0,.int .i64 (rd_T99 l i).f1,.int .i64 (rd_T99 l i).f2,.int .i64 (rd_T99 l i).f3,.int .i64 0,.int .i64 0]) (blk_put (cs:=#[.int .i64 (rd_T99 l i).f0,.int .i64 (rd_T99 l i).f1,.int .i64 (rd_T99 l i).f2,.int .i64 0,.int .i64 0,.int .i64 0]) (blk_put (cs:=#[.int .i64 (rd_T99 l i).f0,.int .i64 (rd_T99 l i).f1,.int .i64 0,.int .i64 0,.int .i64 0,.int .i64 0]) (blk_put (cs:=#[.int .i64 (rd_T99 l i).f0,.int .i64 0,.int .i64 0,.int .i64 0,.int .i64 0,.int .i64 0]) (blk_put (cs:=#[.int .i64 0,.int .i64 0,.int .i64 0,.int .i64 0,.int .i64 0,.int .i64 0]) (BN0.out) 0 (.int .i64 (rd_T99 l i).f0) rfl) 1 (.int .i64 (rd_T99 l i).f1) rfl) 2 (.int .i64 (rd_T99 l i).f2) rfl) 3 (.int .i64 (rd_T99 l i).f3) rfl) 4 (.int .i64 (rd_T99 l i).f4) rfl) 5 (.int .i64 (rd_T99 l i).f5) rfl⟩;clear hz0 hfz0 hz1 hfz1 hz2 hfz2 hz3 hfz3 hz4 hfz4 hz5 hfz5 BN0 HX0;generalize ((((((w1.setCell ⟨gn,0,none⟩ (.int .i64 (rd_T99 l i).f0)).setCell ⟨gn,1,none⟩ (.int .i64 (rd_T99 l i).f1)).setCell ⟨gn,2,none⟩ (.int .i64 (rd_T99 l i).f2)).setCell ⟨gn,3,none⟩ (.int .i64 (rd_T99 l i).f3)).setCell ⟨gn,4,none⟩ (.int .i64 (rd_T99 l i).f4)).setCell ⟨gn,5,none⟩ (.int .i64 (rd_T99 l i).f5))=w5 at BN hb6 ⊢;replace hb6:=below_drew1 hb6;replace BN:=Aside0.mk (blk_drew BN.out);have HG:=Aside0.mk (gr_below (World.grownBy.refl w (some go)) hb6);have BV:=Aside0.mk (blk_below BV0.out hb6);have HK:=Aside0.mk (Kd.R_below HK0.out hb6);have HB:=Aside0.mk (below_step HB0.out hb6);clear hb6 hk1 hf1
  refine start_ (n:=11) (S:=fun w'=>w'.cell? ⟨gn,0,none⟩=some (.int .i64 (rd_T99 l i).f0)∧w'.cell? ⟨gn,1,none⟩=some (.int .i64 (rd_T99 l i).f1)∧w'.cell? ⟨gn,2,none⟩=some (.int .i64 (rd_T99 l i).f2)∧w'.cell? ⟨gn,3,none⟩=some (.int .i64 (rd_T99 l i).f3)∧w'.cell? ⟨gn,4,none⟩=some (.int .i64 (rd_T99 l i).f4)∧w'.cell? ⟨gn,5,none⟩=some (.int .i64 (rd_T99 l i).f5)∧w'.cell? ⟨gv,1 + (rd_T99 l i).f2.toNat,none⟩=some (.int .i64 (rd xs (rd_T99 l i).f2))) (ds:=[10]) (tf 0 11) (by kernel_rfl) rfl rfl ⟨(blk_cell BN.out 0).trans rfl,(blk_cell BN.out 1).trans rfl,(blk_cell BN.out 2).trans rfl,(blk_cell BN.out 3).trans rfl,(blk_cell BN.out 4).trans rfl,(blk_cell BN.out 5).trans rfl,v_cell BV.out _ C8.out.1 C8.out.2⟩ (fun hHeld=>?_);generalize w5.drew=w6 at BN BV HK HG HB hHeld ⊢;have hst:=kn_get HK.out i C1.out.1 C1.out.2;obtain ⟨hk6,hf6⟩:=hst;refine pure_ (i:=0) (N:=some 70) (v:=?_) (a':=?_) (tf 1 10) rfl rfl (by kernel_rfl) (fun _ _ _ h=>h) (Or.inl ⟨by rfl,?_⟩) ?_ ?_;rotate_left
  ·intro w';go_simp;with_reducible rfl
  rotate_left
  ·simp only [Act.put,s1,s2,s3,i64_w,i32_w];rfl
  refine pure_ (i:=1) (N:=some 71) (v:=?_) (a':=?_) (tf 2 9) rfl rfl (by kernel_rfl) (fun _ _ _ h=>h) (Or.inl ⟨by rfl,?_⟩) ?_ ?_;rotate_left
  ·intro w';go_simp;with_reducible rfl
  rotate_left
  ·simp only [Act.put,s1,s2,s3,i64_w,i32_w];rfl
  refine pure_ (i:=2) (N:=some 72) (v:=?_) (a':=?_) (tf 3 8) rfl rfl (by kernel_rfl) (fun _ _ _ h=>h) (Or.inl ⟨by rfl,?_⟩) ?_ ?_;rotate_left
  ·intro w';go_simp;with_reducible rfl
  rotate_left
  ·simp only [Act.put,s1,s2,s3,i64_w,i32_w];rfl
  refine pure_ (i:=3) (N:=some 73) (v:=?_) (a':=?_) (tf 4 7) rfl rfl (by kernel_rfl) (fun _ _ _ h=>h) (Or.inl ⟨by rfl,?_⟩) ?_ ?_;rotate_left
  ·intro w';go_simp;with_reducible rfl
  rotate_left
  ·simp only [Act.put,s1,s2,s3,i64_w,i32_w];rfl
  refine pure_ (i:=5) (N:=some 75) (v:=?_) (a':=?_) #[true,true,true,true,false,true,false,false,false,false,false] rfl rfl (by kernel_rfl) (fun _ _ _ h=>h) (Or.inl ⟨by rfl,?_⟩) ?_ ?_;rotate_left
  ·intro w';go_simp;with_reducible rfl
  rotate_left
  ·simp only [Act.put,s1,s2,s3,i64_w,i32_w];rfl
  refine pure_ (i:=6) (N:=some 76) (v:=?_) (a':=?_) #[true,true,true,true,false,true,true,false,false,false,false] rfl rfl (by kernel_rfl) (fun _ _ _ h=>h) (Or.inl ⟨by rfl,?_⟩) ?_ ?_;rotate_left
  ·intro w';go_simp;with_reducible rfl
  rotate_left
  ·simp only [Act.put,s1,s2,s3,i64_w,i32_w];rfl
  refine take_ (i:=4) (N:=some 74) (v:=?_) (a':=?_) (tf 7 4) rfl rfl (by kernel_rfl) (fun _ _ _ h=>h) (Or.inl ⟨by rfl,?_⟩) hHeld ?_ ?_;rotate_left
  ·rintro w' ⟨s0,s1,s2,s3,s4,s5,s6⟩;go_simp;with_reducible rfl
  rotate_left
  ·simp only [Act.put,s1,s2,s3,i64_w,i32_w];rfl
  refine pure_ (i:=7) (N:=some 77) (v:=?_) (a':=?_) (tf 8 3) rfl rfl (by kernel_rfl) (fun _ _ _ h=>h) (Or.inl ⟨by rfl,?_⟩) ?_ ?_;rotate_left
  ·intro w';go_simp;with_reducible rfl
  rotate_left
  ·simp only [Act.put,s1,s2,s3,i64_w,i32_w];rfl
  refine take_ (i:=8) (N:=some 78) (v:=?_) (a':=?_) (tf 9 2) rfl rfl (by kernel_rfl) (fun _ _ _ h=>h) (Or.inl ⟨by rfl,?_⟩) hHeld ?_ ?_;rotate_left
  ·rintro w' ⟨s0,s1,s2,s3,s4,s5,s6⟩;go_simp;with_reducible rfl
  rotate_left
  ·simp only [Act.put,s1,s2,s3,i64_w,i32_w];rfl
  refine pure_ (i:=9) (N:=some 79) (v:=?_) (a':=?_) (tf 10 1) rfl rfl (by kernel_rfl) (fun _ _ _ h=>h) (Or.inl ⟨by rfl,?_⟩) ?_ ?_;rotate_left
  ·intro w';go_simp;with_reducible rfl
  rotate_left
  ·simp only [Act.put,s1,s2,s3,i64_w,i32_w];rfl
  refine last_ (i:=10) (N:=none) (tf 11 0) rfl rfl (by kernel_rfl) (by decide) (fun K hK=>?_);refine skip_ (w1:=?_) (by rfl) rfl ?_ ?_;rotate_left
  ·go_simp;rfl
  refine hK.out _ _ ?_;clear hK K;refine done_ (by kernel_rfl) ?_;go_wp2;go_ret;exact ⟨rfl,(kn_put HK.out i _).1,HG.out.trans (kn_put HK.out i _).2,below_set HB.out GB.out⟩
 rw [if_neg c5] at h;have d5:((rd_T99 l i).f0 == 1)=false:=beq_eq_false_iff_ne.2 c5;clear c5;obtain ⟨t,ht,h⟩:=Option.bind_eq_some_iff.1 h;have HQ:=Aside0.mk ht;clear ht
 cases t with
 | true=>rw [if_pos rfl] at h;cases h
 | false =>
 rw [if_neg (by decide)] at h;obtain ⟨ps,hp,h⟩:=Option.bind_eq_some_iff.1 h;obtain ⟨q,hl,h⟩:=Option.bind_eq_some_iff.1 h;obtain ⟨v,hap,h⟩:=Option.bind_eq_some_iff.1 h;obtain rfl:=Option.some.inj h;obtain ⟨kn',wd',y0,y1,y2⟩:=q;have HP:=Aside0.mk hp;have HLL:=Aside0.mk hl;have HAP:=Aside0.mk hap;clear hp hl hap h
 have NVg:gv≠go:=by
  rintro rfl;obtain ⟨cs,hcs⟩:=Kd.R_typed HK0.out gv rfl;rw [BV0.out] at hcs
  simp at hcs
 have NVG:=Aside0.mk NVg;clear NVg
 go_enter Try.func89,Try.ntmps89
 go_wp2_with (first|((with_reducible refine gate_dst (N:=7) rfl ?_);refine bx (N:=7) (cs:=#[.int .i64 0,.int .i64 0,.int .i64 0,.int .i64 0,.int .i64 0,.int .i64 0]) (t:=99) ?_;intro gn hg w1 hbox hb;have BN0:=Aside0.mk hbox;have HX0:=Aside0.mk hb;have GN:=Aside0.mk (show w.heap.size≤gn by rw [hg];exact Nat.le_refl _);have hz0:w1.cell? ⟨gn,0,none⟩=some (.int .i64 0):=(blk_cell BN0.out 0).trans rfl;have hfz0:=blk_frozen BN0.out 0;have hz1:w1.cell? ⟨gn,1,none⟩=some (.int .i64 0):=(blk_cell BN0.out 1).trans rfl;have hfz1:=blk_frozen BN0.out 1;have hz2:w1.cell? ⟨gn,2,none⟩=some (.int .i64 0):=(blk_cell BN0.out 2).trans rfl;have hfz2:=blk_frozen BN0.out 2;have hz3:w1.cell? ⟨gn,3,none⟩=some (.int .i64 0):=(blk_cell BN0.out 3).trans rfl;have hfz3:=blk_frozen BN0.out 3;have hz4:w1.cell? ⟨gn,4,none⟩=some (.int .i64 0):=(blk_cell BN0.out 4).trans rfl;have hfz4:=blk_frozen BN0.out 4;have hz5:w1.cell? ⟨gn,5,none⟩=some (.int .i64 0):=(blk_cell BN0.out 5).trans rfl;have hfz5:=blk_frozen BN0.out 5;clear hg hbox hb)|((with_reducible refine gate_callee (f:=123) rfl ?_);(try (refine gate_guard (by rfl) ?_;dsimp only));refine goesL_ (some 82) rfl rfl Try.func123 (by kernel_rfl) rfl #[.agg #[.int .i64 (rd_T99 l i).f0,.int .i64 (rd_T99 l i).f1,.int .i64 (rd_T99 l i).f2,.int .i64 (rd_T99 l i).f3,.int .i64 (rd_T99 l i).f4,.int .i64 (rd_T99 l i).f5]] rfl ml ?_;(with_reducible refine (impl_isQuant.calls (rd_T99 l i).f0 (rd_T99 l i).f1 (rd_T99 l i).f2 (rd_T99 l i).f3 (rd_T99 l i).f4 (rd_T99 l i).f5 false _ HQ.out).mono ?_);rintro e w2 ⟨rfl,hb⟩;refine ⟨_,rfl,?_⟩;have HXb:=Aside0.mk (below_step (below_set (below_set (below_set (below_set (below_set (below_set (HX0.out) GN.out) GN.out) GN.out) GN.out) GN.out) GN.out) hb);have BN6:((((((w1.setCell ⟨gn,0,none⟩ (.int .i64 (rd_T99 l i).f0)).setCell ⟨gn,1,none⟩ (.int .i64 (rd_T99 l i).f1)).setCell ⟨gn,2,none⟩ (.int .i64 (rd_T99 l i).f2)).setCell ⟨gn,3,none⟩ (.int .i64 (rd_T99 l i).f3)).setCell ⟨gn,4,none⟩ (.int .i64 (rd_T99 l i).f4)).setCell ⟨gn,5,none⟩ (.int .i64 (rd_T99 l i).f5)).heap[gn]? = some (.cells #[.int .i64 (rd_T99 l i).f0,.int .i64 (rd_T99 l i).f1,.int .i64 (rd_T99 l i).f2,.int .i64 (rd_T99 l i).f3,.int .i64 (rd_T99 l i).f4,.int .i64 (rd_T99 l i).f5] 99 (0,0)):=blk_put (cs:=#[.int .i64 (rd_T99 l i).f0,.int .i64 (rd_T99 l i).f1,.int .i64 (rd_T99 l i).f2,.int .i64 (rd_T99 l i).f3,.int .i64 (rd_T99 l i).f4,.int .i64 0]) (blk_put (cs:=#[.int .i64 (rd_T99 l i).f0,.int .i64 (rd_T99 l i).f1,.int .i64 (rd_T99 l i).f2,.int .i64 (rd_T99 l i).f3,.int .i64 0,.int .i64 0]) (blk_put (cs:=#[.int .i64 (rd_T99 l i).f0,.int .i64 (rd_T99 l i).f1,.int .i64 (rd_T99 l i).f2,.int .i64 0,.int .i64 0,.int .i64 0]) (blk_put (cs:=#[.int .i64 (rd_T99 l i).f0,.int .i64 (rd_T99 l i).f1,.int .i64 0,.int .i64 0,.int .i64 0,.int .i64 0]) (blk_put (cs:=#[.int .i64 (rd_T99 l i).f0,.int .i64 0,.int .i64 0,.int .i64 0,.int .i64 0,.int .i64 0]) (blk_put (cs:=#[.int .i64 0,.int .i64 0,.int .i64 0,.int .i64 0,.int .i64 0,.int .i64 0]) (BN0.out) 0 (.int .i64 (rd_T99 l i).f0) rfl) 1 (.int .i64 (rd_T99 l i).f1) rfl) 2 (.int .i64 (rd_T99 l i).f2) rfl) 3 (.int .i64 (rd_T99 l i).f3) rfl) 4 (.int .i64 (rd_T99 l i).f4) rfl) 5 (.int .i64 (rd_T99 l i).f5) rfl;have BNb:=Aside0.mk (blk_below BN6 hb);clear hb BN6;clear hz0 hfz0 hz1 hfz1 hz2 hfz2 hz3 hfz3 hz4 hfz4 hz5 hfz5 BN0 HX0;obtain ⟨hcn0,hcn1,hcn2,hcn3,hcn4,hcn5⟩:=c6_ BNb)|((with_reducible refine gate_dst (N:=8) rfl ?_);refine bx (N:=8) (cs:=#[.int .i64 0,.int .i64 0,.int .i64 0]) (t:=132) ?_;intro ga hg w2b hbox hb;have BAa:=Aside0.mk hbox;have BNc:=Aside0.mk (blk_below BNb.out hb);have HXc:=Aside0.mk (below_step HXb.out hb);have GA:=Aside0.mk (show w.heap.size≤ga by rw [hg];exact HXb.out.size);have NE:=Aside0.mk (show gn≠ga by rw [hg];exact Nat.ne_of_lt (blk_lt BNb.out));clear BNb HXb;clear hcn0 hcn1 hcn2 hcn3 hcn4 hcn5;have hn1_:=NE.out;have hn2_:ga≠gn:=fun e_=>NE.out e_.symm;obtain ⟨hcn0,hcn1,hcn2,hcn3,hcn4,hcn5⟩:=c6_ BNc;obtain ⟨hcw0,hcw1,hcw2⟩:=c3_ BAa;have hfw0:=blk_frozen BAa.out 0;have hfw1:=blk_frozen BAa.out 1;have hfw2:=blk_frozen BAa.out 2;clear hg hbox hb)|((with_reducible refine gate_callee (f:=125) rfl ?_);(try (refine gate_guard (by rfl) ?_;dsimp only));refine goesL_ (some 30) rfl rfl Try.func125 (by kernel_rfl) rfl #[.agg #[.int .i64 (rd_T99 l i).f0,.int .i64 (rd_T99 l i).f1,.int .i64 (rd_T99 l i).f2,.int .i64 (rd_T99 l i).f3,.int .i64 (rd_T99 l i).f4,.int .i64 (rd_T99 l i).f5]] rfl ml ?_;(with_reducible refine (impl_Parts.calls k1 (rd_T99 l i).f0 (rd_T99 l i).f1 (rd_T99 l i).f2 (rd_T99 l i).f3 (rd_T99 l i).f4 (rd_T99 l i).f5 ps _ HP.out).mono ?_);rintro e w3 ⟨v_,rfl,ho,hb⟩;refine ⟨_,rfl,?_⟩;have BA5:(((w2b.setCell ⟨ga,0,none⟩ (.int .i64 0)).setCell ⟨ga,1,none⟩ (.int .i64 0)).setCell ⟨ga,2,none⟩ (.int .i64 0)).heap[ga]? = some (.cells #[.int .i64 0,.int .i64 0,.int .i64 0] 132 (0,0)):=blk_put (cs:=#[.int .i64 0,.int .i64 0,.int .i64 0]) (blk_put (cs:=#[.int .i64 0,.int .i64 0,.int .i64 0]) (blk_put (cs:=#[.int .i64 0,.int .i64 0,.int .i64 0]) BAa.out 0 _ rfl) 1 _ rfl) 2 _ rfl;have BN5:=blk_far (blk_far (blk_far BNc.out (p:=⟨ga,0,none⟩) NE.out (.int .i64 0)) (p:=⟨ga,1,none⟩) NE.out (.int .i64 0)) (p:=⟨ga,2,none⟩) NE.out (.int .i64 0);have HX5:Below w.heap.size w (((w2b.setCell ⟨ga,0,none⟩ (.int .i64 0)).setCell ⟨ga,1,none⟩ (.int .i64 0)).setCell ⟨ga,2,none⟩ (.int .i64 0)):=below_set (below_set (below_set HXc.out GA.out) GA.out) GA.out;have BA:=Aside0.mk (blk_below BA5 hb);have BNd:=Aside0.mk (blk_below BN5 hb);have HXd:=Aside0.mk (below_step HX5 hb);have HR:=Aside0.mk (Kd.R_lower ho HX5.size);clear ho hb BNc HXc BAa BA5 BN5 HX5 hn1_ hn2_;clear hcn0 hcn1 hcn2 hcn3 hcn4 hcn5;clear hcw0 hcw1 hcw2 hfw0 hfw1 hfw2;obtain ⟨Ap,cp,ep⟩:=Kd.R_slice HR.out;subst ep))
 have HG1:=Aside0.mk (gr_below (World.grownBy.refl w (some go)) HXd.out);have HB1:=Aside0.mk (below_gr HB0.out HG1.out GB.out HB0.out.size);have HK1_:=Aside0.mk (Kd.R_below HK0.out HXd.out);have NGN:=Aside0.mk (show gn≠go from fun e=>by have:=GN.out;have:=GL.out;omega);have NGA:=Aside0.mk (show ga≠go from fun e=>by have:=GA.out;have:=GL.out;omega);have HRp:=Aside0.mk (Kd.R_mono (Kd.R_bound HR.out) (ok':=fun k=>k≠go) (fun k hk=>by have:=hk.2.1;have:=GL.out;omega));clear HR hk1 hf1 hx0 hx1 hx2 hx3 hx4 hx5 hv0;have GA0:=Aside0.mk (Nat.le_trans HB0.out.size GA.out)
 go_loopg [9,32] k1 (fun kq v9 v32 wr=>∃ (j wd x0 x1 x2:Int) (kn2:List Int),v9 = .int .i64 wd∧v32 = .int .i64 j∧Aside0 (vaL kq l xs ps kn2 j wd x0 x1 x2=some (kn',wd',y0,y1,y2))∧Aside0 (kq≤k1)∧Aside0 (wr.heap[gn]? = some (.cells #[.int .i64 (rd_T99 l i).f0,.int .i64 (rd_T99 l i).f1,.int .i64 (rd_T99 l i).f2,.int .i64 (rd_T99 l i).f3,.int .i64 (rd_T99 l i).f4,.int .i64 (rd_T99 l i).f5] 99 (0,0)))∧Aside0 (wr.heap[ga]? = some (.cells #[.int .i64 x0,.int .i64 x1,.int .i64 x2] 132 (0,0)))∧Aside0 (Kd.R (Kd.int .i64) 3 wr w.heap.size (fun k=>k≠go) (.slice Ap ps.length cp) ps)∧Aside0 (Kd.R (Kd.int .i64) 3 wr w0.heap.size (fun _=>True) (.slice (some ⟨go,0,none⟩) n ck) kn2)∧Aside0 (w.grownBy wr (some go))∧Aside0 (Below w0.heap.size w0 wr))
 case atStart=>exact ⟨0,1,0,0,0,_,rfl,rfl,HLL,⟨Nat.le_refl _⟩,BNd,BA,HRp,HK1_,HG1,HB1⟩
 case round =>
  clear HLL BNd BA HRp HK1_ HG1 HB1 d4 c4 d5 d3 d1 d2 c1 c2;obtain ⟨j,wd,x0,x1,x2,kn2,rfl,rfl,HA,HK1,BN,BA,HR,HK,HG,HB⟩:=hrel;have BV:=Aside0.mk (blk_grown BV0.out HG.out (by intro e;injection e with e;exact NVG.out e));have NVA:=Aside0.mk (show gv≠ga from fun e=>by have h1:=blk_lt BV0.out;have:=GA.out;omega);have NE1:=NE.out
  have NE2:ga≠gn:=fun e=>NE.out e.symm
  have NE3:=NVA.out
  have NE4:ga≠gv:=fun e=>NVA.out e.symm
  cases gk with
  | zero=>exact absurd HA.out (by simp [vaL])
  | succ k2 =>
   have H:=HA.out;clear HA;simp only [vaL] at H
   by_cases c3:j < (ps.length:Int)
   ·rw [if_pos c3] at H
    by_cases c4:0≤j
    case neg=>rw [if_neg c4] at H;cases H
    rw [if_pos c4] at H;obtain ⟨qv,hv,H⟩:=Option.bind_eq_some_iff.1 H;have HVF:=Aside0.mk hv;clear hv;have d3:decide (j < (ps.length:Int))=true:=decide_eq_true c3;have C3:=Aside0.mk c3;have d4:decide (0≤j)=true:=decide_eq_true c4;obtain ⟨ap,e_,hxp⟩:=Kd.at_int (Kd.R_reads' HR.out).2.2 j c4 c3;cases e_;replace c3:=eq_true c3;replace c4:=eq_true c4
    by_cases z0:j=0
    ·subst z0;rw [if_pos rfl] at H
     by_cases c5:0≤rd ps 0∧rd ps 0 < (l.length:Int)
     case neg=>rw [if_neg c5] at H;cases H
     rw [if_pos c5] at H;obtain ⟨ad2,e_,_,hx1,_⟩:=at_T99 HL0.out (rd ps 0) c5.1 c5.2
     obtain rfl:ad=ad2:=by injection e_
     clear e_
     have hxs:∀ W v,Below w0.heap.size w0 W→(W.setCell ⟨ga,0,none⟩ v).cell? ⟨(ad.add ((rd ps 0).toNat * 6)).block,(ad.add ((rd ps 0).toNat * 6)).off + 1,none⟩=some (.int .i64 (rd_T99 l (rd ps 0)).f1):=fun W v hW=>((below_set hW GA0.out).cell (World.block_lt_of_cell? w0 _ hx1)).trans hx1
     have HXS:=Aside0.mk hxs;clear hx1 hxs;obtain ⟨c5,c6⟩:=c5;have d5:decide (0≤rd ps 0)=true:=decide_eq_true c5;have d6:decide (rd ps 0 < (l.length:Int))=true:=decide_eq_true c6;replace c5:=eq_true c5;replace c6:=eq_true c6;have d3n:decide (0 < ps.length)=true:=decide_eq_true (by have:=C3.out;omega);have q3n:(0 < ps.length)=True:=eq_true (by have:=C3.out;omega);have H':=Aside0.mk H;rw [show ((0:Int)).toNat=0 from rfl,Addr.add_zero'] at hxp;clear H;go_wp2_with (first|((with_reducible refine gate_callee (f:=89) rfl ?_);(try (refine gate_guard (by rfl) ?_;dsimp only));refine goesL_ (some 41) rfl rfl Try.func89 (by kernel_rfl) rfl #[.pointer (some ⟨gv,0,none⟩),.int .i64 (rd ps 0),.slice (some ⟨go,0,none⟩) n ck] rfl ml ?_;(with_reducible refine (IH.out k2 (by have:=HK1.out;omega) (rd ps 0) kn2 qv _ HB.out BV.out HK.out HVF.out).mono ?_);rintro e w5 ⟨rfl,hk,hg,hb⟩;refine ⟨_,rfl,?_⟩;have HKb:=Aside0.mk hk;have HBb:=Aside0.mk hb;have BNb:=Aside0.mk (blk_grown BN.out hg (by intro e;injection e with e;exact NGN.out e));have BAb:=Aside0.mk (blk_grown BA.out hg (by intro e;injection e with e;exact NGA.out e));have BVb:=Aside0.mk (blk_grown BV.out hg (by intro e;injection e with e;exact NVG.out e));have HRb:=Aside0.mk (Kd.R_grown HR.out hg (fun k hk e=>hk (by injection e)));have HGb:=Aside0.mk (HG.out.trans hg);clear hk hg hb;obtain ⟨hcw0,hcw1,hcw2⟩:=c3_ BAb;have hfw0:=blk_frozen BAb.out 0;have hfw1:=blk_frozen BAb.out 1;have hfw2:=blk_frozen BAb.out 2;have hv5:=v_row BVb.out;have hx5:=HXS.out w5 (.int .i64 qv.1) HBb.out));go_roundg k2
     case measure=>have:=HK1.out;omega
     case rel=>exact ⟨1,(rd_T99 l (rd ps 0)).f1,qv.1,x1,x2,qv.2,(by first|rfl|(simp;done)),(by first|rfl|(simp;done)),H',⟨by have:=HK1.out;omega⟩,⟨blk_far BNb.out NE1 _⟩,⟨blk_put (cs:=#[.int .i64 x0,.int .i64 x1,.int .i64 x2]) BAb.out 0 _ rfl⟩,⟨Kd.R_set HRb.out BAb.out (by decide) 0 _⟩,⟨Kd.R_set HKb.out BAb.out (by decide) 0 _⟩,⟨gr_below HGb.out (Below.setCell (p:=⟨ga,0,none⟩) (Below.refl w.heap.size w5) GA.out _)⟩,⟨below_set HBb.out GA0.out⟩⟩
    rw [if_neg z0] at H
    by_cases z1:j=1
    ·subst z1;rw [if_pos rfl] at H;have d3n:decide (1 < ps.length)=true:=decide_eq_true (by have:=C3.out;omega);have H':=Aside0.mk H;rw [show ((1:Int)).toNat=1 from rfl,show ap.add 1=⟨ap.block,ap.off + 1,none⟩ from rfl] at hxp;clear H z0;go_wp2_with (first|((with_reducible refine gate_callee (f:=89) rfl ?_);(try (refine gate_guard (by rfl) ?_;dsimp only));refine goesL_ (some 41) rfl rfl Try.func89 (by kernel_rfl) rfl #[.pointer (some ⟨gv,0,none⟩),.int .i64 (rd ps 1),.slice (some ⟨go,0,none⟩) n ck] rfl ml ?_;(with_reducible refine (IH.out k2 (by have:=HK1.out;omega) (rd ps 1) kn2 qv _ HB.out BV.out HK.out HVF.out).mono ?_);rintro e w5 ⟨rfl,hk,hg,hb⟩;refine ⟨_,rfl,?_⟩;have HKb:=Aside0.mk hk;have HBb:=Aside0.mk hb;have BNb:=Aside0.mk (blk_grown BN.out hg (by intro e;injection e with e;exact NGN.out e));have BAb:=Aside0.mk (blk_grown BA.out hg (by intro e;injection e with e;exact NGA.out e));have BVb:=Aside0.mk (blk_grown BV.out hg (by intro e;injection e with e;exact NVG.out e));have HRb:=Aside0.mk (Kd.R_grown HR.out hg (fun k hk e=>hk (by injection e)));have HGb:=Aside0.mk (HG.out.trans hg);clear hk hg hb;obtain ⟨hcw0,hcw1,hcw2⟩:=c3_ BAb;have hfw0:=blk_frozen BAb.out 0;have hfw1:=blk_frozen BAb.out 1;have hfw2:=blk_frozen BAb.out 2));go_roundg k2
     case measure=>have:=HK1.out;omega
     case rel=>exact ⟨2,wd,x0,qv.1,x2,qv.2,(by first|rfl|(simp;done)),(by first|rfl|(simp;done)),H',⟨by have:=HK1.out;omega⟩,⟨blk_far BNb.out NE1 _⟩,⟨blk_put (cs:=#[.int .i64 x0,.int .i64 x1,.int .i64 x2]) BAb.out 1 _ rfl⟩,⟨Kd.R_set HRb.out BAb.out (by decide) 1 _⟩,⟨Kd.R_set HKb.out BAb.out (by decide) 1 _⟩,⟨gr_below HGb.out (Below.setCell (p:=⟨ga,1,none⟩) (Below.refl w.heap.size w5) GA.out _)⟩,⟨below_set HBb.out GA0.out⟩⟩
    rw [if_neg z1] at H
    by_cases z2:j=2
    ·subst z2;rw [if_pos rfl] at H;have d3n:decide (2 < ps.length)=true:=decide_eq_true (by have:=C3.out;omega);have H':=Aside0.mk H;rw [show ((2:Int)).toNat=2 from rfl,show ap.add 2=⟨ap.block,ap.off + 2,none⟩ from rfl] at hxp;clear H z0 z1;go_wp2_with (first|((with_reducible refine gate_callee (f:=89) rfl ?_);(try (refine gate_guard (by rfl) ?_;dsimp only));refine goesL_ (some 41) rfl rfl Try.func89 (by kernel_rfl) rfl #[.pointer (some ⟨gv,0,none⟩),.int .i64 (rd ps 2),.slice (some ⟨go,0,none⟩) n ck] rfl ml ?_;(with_reducible refine (IH.out k2 (by have:=HK1.out;omega) (rd ps 2) kn2 qv _ HB.out BV.out HK.out HVF.out).mono ?_);rintro e w5 ⟨rfl,hk,hg,hb⟩;refine ⟨_,rfl,?_⟩;have HKb:=Aside0.mk hk;have HBb:=Aside0.mk hb;have BNb:=Aside0.mk (blk_grown BN.out hg (by intro e;injection e with e;exact NGN.out e));have BAb:=Aside0.mk (blk_grown BA.out hg (by intro e;injection e with e;exact NGA.out e));have BVb:=Aside0.mk (blk_grown BV.out hg (by intro e;injection e with e;exact NVG.out e));have HRb:=Aside0.mk (Kd.R_grown HR.out hg (fun k hk e=>hk (by injection e)));have HGb:=Aside0.mk (HG.out.trans hg);clear hk hg hb;obtain ⟨hcw0,hcw1,hcw2⟩:=c3_ BAb;have hfw0:=blk_frozen BAb.out 0;have hfw1:=blk_frozen BAb.out 1;have hfw2:=blk_frozen BAb.out 2));go_roundg k2
     case measure=>have:=HK1.out;omega
     case rel=>exact ⟨3,wd,x0,x1,qv.1,qv.2,(by first|rfl|(simp;done)),(by first|rfl|(simp;done)),H',⟨by have:=HK1.out;omega⟩,⟨blk_far BNb.out NE1 _⟩,⟨blk_put (cs:=#[.int .i64 x0,.int .i64 x1,.int .i64 x2]) BAb.out 2 _ rfl⟩,⟨Kd.R_set HRb.out BAb.out (by decide) 2 _⟩,⟨Kd.R_set HKb.out BAb.out (by decide) 2 _⟩,⟨gr_below HGb.out (Below.setCell (p:=⟨ga,2,none⟩) (Below.refl w.heap.size w5) GA.out _)⟩,⟨below_set HBb.out GA0.out⟩⟩
    rw [if_neg z2] at H;cases H
   ·rw [if_neg c3] at H;have d3:decide (j < (ps.length:Int))=false:=decide_eq_false c3;clear c3;cases H;obtain ⟨hcn0,hcn1,hcn2,hcn3,hcn4,hcn5⟩:=c6_ BN;obtain ⟨hcw0,hcw1,hcw2⟩:=c3_ BA;have hfw0:=blk_frozen BA.out 0;have hfw1:=blk_frozen BA.out 1;have hfw2:=blk_frozen BA.out 2;go_wp2_with (first|((with_reducible refine gate_callee (f:=126) rfl ?_);(try (refine gate_guard (by rfl) ?_;dsimp only));refine goesL_ (some 64) rfl rfl Try.func126 (by kernel_rfl) rfl #[.agg #[.int .i64 (rd_T99 l i).f0,.int .i64 (rd_T99 l i).f1,.int .i64 (rd_T99 l i).f2,.int .i64 (rd_T99 l i).f3,.int .i64 (rd_T99 l i).f4,.int .i64 (rd_T99 l i).f5],.int .i64 wd',.int .i64 y0,.int .i64 y1,.int .i64 y2] rfl ml ?_;(with_reducible refine (impl_Apply.calls k1 (rd_T99 l i).f0 (rd_T99 l i).f1 (rd_T99 l i).f2 (rd_T99 l i).f3 (rd_T99 l i).f4 (rd_T99 l i).f5 wd' y0 y1 y2 v _ HAP.out).mono ?_);rintro e w6 ⟨rfl,hb⟩;refine ⟨_,rfl,?_⟩;have HKc:=Aside0.mk (Kd.R_below HK.out hb);have HBc:=Aside0.mk (below_step HB.out hb);have HGc:=Aside0.mk (gr_up HG.out hb);clear hb;obtain ⟨hk6,hf6⟩:=kn_get HKc.out i C1.out.1 C1.out.2;have c1:=eq_true C1.out.1;have c2:=eq_true C1.out.2;have d1:=decide_eq_true C1.out.1;have d2:=decide_eq_true C1.out.2));go_ret;exact ⟨rfl,(kn_put HKc.out i _).1,HGc.out.trans (kn_put HKc.out i _).2,below_set HBc.out GB.out⟩
set_option maxHeartbeats 8000000 in
set_option maxRecDepth 100000 in
theorem blank_calls (A:Option Addr) (n c:Nat) (xs:List Int) (gv:Nat) (w:World) (hbk:w.heap[gv]? = some (.cells (vcells A n c xs) 105 (0,0))) (hs:n≤35184372088832) :
  Calls Try.prog 90 #[.pointer (some ⟨gv,0,none⟩)] w fun e w'=>∃ v,e = .returned v∧Kd.R (Kd.int .i64) 3 w' w.heap.size (fun _=>True) v (List.replicate n (-1))∧Below w.heap.size w w':=by
 have BV:=Aside0.mk hbk;have SZ:=Aside0.mk hs;clear hbk hs;have hv0:=v_row BV.out
 go_enter Try.func90,Try.ntmps90
 go_wp2_with (first|((with_reducible refine gate_dst (N:=10) rfl ?_);refine Kd.R_make (Kd.int .i64) _ 3 rfl (N:=10) rfl 31 _ _ rfl (n:Int) rfl rfl Try.underlying31 (.int .i64 0) 8 info3 rfl (by decide) (by omega) 0 (ok:=fun _=>True) (okp:=fun _=>True) rfl (fun _ hk=>hk) trivial (by omega) (Nat.le_trans (Nat.mul_le_mul_right _ (by have:=SZ.out;omega:(n:Int).toNat≤35184372088832)) (by omega)) (Below.refl _ _) (Nat.le_refl _) ?_;intro v102 w4 ho5 hb hg_ hnew_;clear hg_ hnew_;rw [Int.toNat_natCast] at ho5;have HO:=Aside0.mk ho5;have HB:=Aside0.mk hb;clear ho5 hb;obtain ⟨Ab,cb,eb⟩:=Kd.R_slice HO.out;rw [List.length_replicate] at eb;subst eb))
 go_loopg [13] (n + 1) (fun kq v13 wr=>∃ (j:Nat) (kn:List Int),v13 = .int .i64 (j:Int)∧Aside0 (j≤n∧n - j < kq)∧Aside0 (kn.length=n∧∀ q,q < j→kn.getD q 0 = -1)∧Aside0 (Kd.R (Kd.int .i64) 3 wr w.heap.size (fun _=>True) (.slice Ab n cb) kn)∧Aside0 (Below w.heap.size w wr))
 case atStart=>exact ⟨0,_,rfl,⟨by omega⟩,⟨by simp,by intro q hq;omega⟩,HO,HB⟩
 case round =>
  clear HO HB hv0;obtain ⟨j,kn,rfl,HJ,HK,HO,HB⟩:=hrel
  by_cases c3:(j:Int) < (n:Int)
  ·cases gk with
   | zero=>exact absurd HJ.out.2 (by omega)
   | succ k1 =>
   obtain ⟨gb,cb2,eb,GB,GL,_,_⟩:=Kd.R_form HO.out (by have:=HK.out.1;omega);rw [HK.out.1] at eb;cases eb;have GB_:=Aside0.mk GB;clear GB GL;have d3:decide ((j:Int) < (n:Int))=true:=decide_eq_true c3;have q3:decide (j < n)=true:=decide_eq_true (by omega);have q3n:(j < n)=True:=eq_true (by omega);have C3:=Aside0.mk c3;replace c3:=eq_true c3;have c4:(0≤(j:Int))=True:=eq_true (by omega);have d4:decide (0≤(j:Int))=true:=decide_eq_true (by omega);obtain ⟨hk1,hf1⟩:=kn_get HO.out (j:Int) (by omega) C3.out;have hP:=Aside0.mk (kn_put HO.out (j:Int) (-1)).1;rw [Int.toNat_natCast] at hk1 hf1;go_wp2;go_roundg k1
   case measure=>omega
   case rel =>
    refine ⟨j + 1,kn.set j (-1),?_,⟨by have:=C3.out;have:=HJ.out;omega⟩,⟨by simpa using HK.out.1,?_⟩,?_,⟨below_set HB.out GB_.out⟩⟩
    ·rw [show wrap64 ((j:Int) + 1)=((j + 1:Nat):Int) from by have:=C3.out;have:=SZ.out;unfold wrap64;omega]
    ·intro q hq;have h1:=HK.out.1;have h2:=C3.out
     by_cases hqj:q=j
     ·subst hqj
      simp [List.getD_eq_getElem?_getD,show q < kn.length by omega]
     ·have h3:=HK.out.2 q (by omega);rw [List.getD_eq_getElem?_getD] at h3 ⊢;rw [List.getElem?_set_ne (fun e=>hqj e.symm)];exact h3
    ·exact ⟨by have:=hP.out;rw [Int.toNat_natCast] at this;exact this⟩
  ·have d3:decide ((j:Int) < (n:Int))=false:=decide_eq_false c3;have q3:decide (j < n)=false:=decide_eq_false (by omega);have q3n:(j < n)=False:=eq_false (by omega)
   have e:kn=List.replicate n (-1):=by
    apply List.ext_getElem (by simpa using HK.out.1)
    intro q h1 h2;have h3:=HK.out.2 q (by have:=HJ.out;simp at h2;omega);rw [List.getD_eq_getElem?_getD,List.getElem?_eq_getElem h1] at h3
    simpa using h3
   subst e;replace c3:=eq_false c3;go_wp2;go_ret;exact ⟨_,rfl,HO.out,HB.out⟩
section
variable {W:World} {go ck b n:Nat} {kn:List Int} {ok:Nat→Prop}
theorem bt_get (h:Kd.R (Kd.int .u8) 5 W b ok (.slice (some ⟨go,0,none⟩) n ck) kn) (i:Int) (h0:0≤i) (h1:i < n):W.cell? ⟨go,i.toNat,none⟩=some (.int .u8 (rd kn i))∧W.frozen? ⟨go,i.toNat,none⟩=false:=Kd.R_celln (0:Int) h i h0 h1
theorem bt_put (h:Kd.R (Kd.int .u8) 5 W b ok (.slice (some ⟨go,0,none⟩) n ck) kn) (i:Int) (v:Int):Kd.R (Kd.int .u8) 5 (W.setCell ⟨go,i.toNat,none⟩ (.int .u8 v)) b ok (.slice (some ⟨go,0,none⟩) n ck) (kn.set i.toNat v)∧W.grownBy (W.setCell ⟨go,i.toNat,none⟩ (.int .u8 v)) (some go):=Kd.R_putg h i v
end
def taI:Nat→List S66→Int→Int→Int→List Int→Option (List Int)
 | 0,_,_,_,_,_=>none
 | k + 1,l0,t,q,at_,xs=>if q < (l0.length:Int) then (if 0≤q then (if 0≤(rd_T66 l0 q).f1∧(rd_T66 l0 q).f1 < (xs.length:Int) then (if 0≤IntKind.u64.wrap (wrap64 (at_ - (rd_T66 l0 q).f2)) then (impl_cut.f (rd_T66 l0 q).f2 (shr .i64 t (IntKind.u64.wrap (wrap64 (at_ - (rd_T66 l0 q).f2))))).bind fun v=>taI k l0 t (wrap64 (q + 1)) (wrap64 (at_ - (rd_T66 l0 q).f2)) (xs.set (rd_T66 l0 q).f1.toNat v) else none) else none) else none) else some xs
def taO (l0:List S66) (l1:List S99) (n:Int):Nat→Int→List Int→List Int→Option (List Int)
 | 0,_,_,_=>none
 | k + 1,t,vals,xs=>if t < (vals.length:Int) then (if 0≤t then (taI k l0 t 0 n xs).bind fun xs'=>(vaF k l1 xs' (wrap64 ((l1.length:Int) - 1)) (List.replicate l1.length (-1))).bind fun q=>(impl_sign.f q.1).bind fun s=>taO l0 l1 n k (wrap64 (t + 1)) (vals.set t.toNat s) xs' else none) else some vals
def impl_TableOf.f (k:Nat) (l0:List S66) (l1:List S99):Option (Int × ByteArray × Bool):=(impl_frontBits.f k l0).bind fun n=>if n < 0 then some (0,(⟨#[]⟩:ByteArray),false) else (impl_FrontOk.f k l0 l1).bind fun t=>if t=true then (if 0 < l1.length∧l1.length≤35184372088832 then (if 0≤IntKind.u64.wrap n then (if 0≤(wrap64 (2 ^ min (IntKind.u64.wrap n).toNat 64))∧(wrap64 (2 ^ min (IntKind.u64.wrap n).toNat 64)).toNat≤281474976710656 then (taO l0 l1 n k 0 (List.replicate (wrap64 (2 ^ min (IntKind.u64.wrap n).toNat 64)).toNat 0) (List.replicate 8 0)).bind fun vals=>some (n,strOfNums vals,true) else none) else none) else none) else some (0,(⟨#[]⟩:ByteArray),false)
set_option maxHeartbeats 8000000 in
set_option maxRecDepth 100000 in
theorem impl_TableOf.calls (k:Nat) (A0:Option Addr) (c0:Nat) (l0:List (S66)) (A1:Option Addr) (c1:Nat) (l1:List (S99)) (r1:Int) (r2:ByteArray) (r3:Bool) (w:World) (hr0:Kd.C k66 w A0 l0.length l0) (hc0:l0.length≤c0) (hr1:Kd.C k99 w A1 l1.length l1) (hc1:l1.length≤c1) (h:impl_TableOf.f k l0 l1=some (r1,r2,r3)) :
  Calls Try.prog 37 #[.slice A0 l0.length c0,.slice A1 l1.length c1] w fun e w'=>e = .returned (.tuple #[.agg #[.int .i64 r1,.string r2],.bool r3])∧Below w.heap.size w w':=by
 have HR0:=Aside0.mk hr0;have HC0:=Aside0.mk hc0;have HR1:=Aside0.mk hr1;have HC1:=Aside0.mk hc1;clear hr0 hc0 hr1 hc1;unfold impl_TableOf.f at h;obtain ⟨n,hn,h⟩:=Option.bind_eq_some_iff.1 h;have HB_:=Aside0.mk hn;clear hn
 by_cases c1_:n < 0
 ·rw [if_pos c1_] at h;have d1:decide (n < 0)=true:=decide_eq_true c1_;clear c1_;simp only [Option.some.injEq,Prod.mk.injEq] at h;obtain ⟨rfl,rfl,rfl⟩:=h
  go_enter Try.func37,Try.ntmps37
  go_wp2_with (first|((with_reducible refine gate_dst (N:=4) rfl ?_);refine bx (N:=4) (cs:=#[.int .i64 0,.string (⟨#[]⟩:ByteArray)]) (t:=26) ?_;intro gr hg w1 hbox hb;have BR1:=Aside0.mk hbox;have HX1:=Aside0.mk hb;have GR:=Aside0.mk (show w.heap.size≤gr by rw [hg];exact Nat.le_refl _);clear hg hbox hb)|((with_reducible refine gate_callee (f:=86) rfl ?_);(try (refine gate_guard (by rfl) ?_;dsimp only));refine goesL_ (some 14) rfl rfl Try.func86 (by kernel_rfl) rfl #[.slice A0 l0.length c0] rfl ml ?_;(with_reducible refine (impl_frontBits.calls k A0 c0 l0 n _ (Kd.C_below HR0.out HX1.out) HC0.out HB_.out).mono ?_);rintro e w2 ⟨rfl,hb⟩;refine ⟨_,rfl,?_⟩;have HX2:=Aside0.mk (below_step HX1.out hb);have BR2:=Aside0.mk (blk_below BR1.out hb);clear hb;have hr0:=(blk_cell BR2.out 0).trans rfl;have hr1:=(blk_cell BR2.out 1).trans rfl;have hs0:=blk_frozen BR2.out 0;have hs1:=blk_frozen BR2.out 1));refine bodyPost_ret (results_ct rfl _ _ gr 26 #[.int .i64 0,.string (⟨#[]⟩:ByteArray)] (0,0) _ rfl (by refine blk_put (cs:=#[.int .i64 0,.string (⟨#[]⟩:ByteArray)]) ?_ 1 _ rfl;refine blk_put (cs:=#[.int .i64 0,.string (⟨#[]⟩:ByteArray)]) ?_ 0 _ rfl;exact BR2.out) Try.underlying26 rfl (by kernel_rfl)) rfl ?_;exact ⟨rfl,below_set (below_set HX2.out GR.out) GR.out⟩
 rw [if_neg c1_] at h;have d1:decide (n < 0)=false:=decide_eq_false c1_;clear c1_;obtain ⟨t,ht,h⟩:=Option.bind_eq_some_iff.1 h;have HF_:=Aside0.mk ht;clear ht
 cases t with
 | false =>
  rw [if_neg (by decide)] at h;simp only [Option.some.injEq,Prod.mk.injEq] at h;obtain ⟨rfl,rfl,rfl⟩:=h
  go_enter Try.func37,Try.ntmps37
  go_wp2_with (first|((with_reducible refine gate_dst (N:=4) rfl ?_);refine bx (N:=4) (cs:=#[.int .i64 0,.string (⟨#[]⟩:ByteArray)]) (t:=26) ?_;intro gr hg w1 hbox hb;have BR1:=Aside0.mk hbox;have HX1:=Aside0.mk hb;have GR:=Aside0.mk (show w.heap.size≤gr by rw [hg];exact Nat.le_refl _);clear hg hbox hb)|((with_reducible refine gate_callee (f:=86) rfl ?_);(try (refine gate_guard (by rfl) ?_;dsimp only));refine goesL_ (some 14) rfl rfl Try.func86 (by kernel_rfl) rfl #[.slice A0 l0.length c0] rfl ml ?_;(with_reducible refine (impl_frontBits.calls k A0 c0 l0 n _ (Kd.C_below HR0.out HX1.out) HC0.out HB_.out).mono ?_);rintro e w2 ⟨rfl,hb⟩;refine ⟨_,rfl,?_⟩;have HX2:=Aside0.mk (below_step HX1.out hb);have BR2:=Aside0.mk (blk_below BR1.out hb);clear hb;have hr0:=(blk_cell BR2.out 0).trans rfl;have hr1:=(blk_cell BR2.out 1).trans rfl;have hs0:=blk_frozen BR2.out 0;have hs1:=blk_frozen BR2.out 1)|((with_reducible refine gate_callee (f:=87) rfl ?_);(try (refine gate_guard (by rfl) ?_;dsimp only));refine goesL_ (some 20) rfl rfl Try.func87 (by kernel_rfl) rfl #[.slice A0 l0.length c0,.slice A1 l1.length c1] rfl ml ?_;(with_reducible refine (impl_FrontOk.calls k A0 c0 l0 A1 c1 l1 false _ (Kd.C_below HR0.out HX2.out) HC0.out (Kd.C_below HR1.out HX2.out) HC1.out HF_.out).mono ?_);rintro e w3 ⟨rfl,hb⟩;refine ⟨_,rfl,?_⟩;have HX3:=Aside0.mk (below_step HX2.out hb);have BR3:=Aside0.mk (blk_below BR2.out hb);clear hb hr0 hr1 hs0 hs1;have hr0:=(blk_cell BR3.out 0).trans rfl;have hr1:=(blk_cell BR3.out 1).trans rfl;have hs0:=blk_frozen BR3.out 0;have hs1:=blk_frozen BR3.out 1));refine bodyPost_ret (results_ct rfl _ _ gr 26 #[.int .i64 0,.string (⟨#[]⟩:ByteArray)] (0,0) _ rfl (by refine blk_put (cs:=#[.int .i64 0,.string (⟨#[]⟩:ByteArray)]) ?_ 1 _ rfl;refine blk_put (cs:=#[.int .i64 0,.string (⟨#[]⟩:ByteArray)]) ?_ 0 _ rfl;exact BR3.out) Try.underlying26 rfl (by kernel_rfl)) rfl ?_;exact ⟨rfl,below_set (below_set HX3.out GR.out) GR.out⟩
 | true =>
 rw [if_pos rfl] at h
 by_cases c2_:0 < l1.length∧l1.length≤35184372088832
 case neg=>rw [if_neg c2_] at h;cases h
 rw [if_pos c2_] at h;have SZ:=Aside0.mk c2_;clear c2_
 by_cases c3:0≤IntKind.u64.wrap n
 case neg=>rw [if_neg c3] at h;cases h
 rw [if_pos c3] at h;have d3:decide (0≤IntKind.u64.wrap n)=true:=decide_eq_true c3;replace c3:=eq_true c3
 by_cases c4:0≤(wrap64 (2 ^ min (IntKind.u64.wrap n).toNat 64))∧(wrap64 (2 ^ min (IntKind.u64.wrap n).toNat 64)).toNat≤281474976710656
 case neg=>rw [if_neg c4] at h;cases h
 rw [if_pos c4] at h;have CS:=Aside0.mk c4;clear c4;obtain ⟨vs,hv,h⟩:=Option.bind_eq_some_iff.1 h;have HTO:=Aside0.mk hv;clear hv;simp only [Option.some.injEq,Prod.mk.injEq] at h;obtain ⟨rfl,rfl,rfl⟩:=h
 go_enter Try.func37,Try.ntmps37
 go_wp2_with (first|((with_reducible refine gate_dst (N:=4) rfl ?_);refine bx (N:=4) (cs:=#[.int .i64 0,.string (⟨#[]⟩:ByteArray)]) (t:=26) ?_;intro gr hg w1 hbox hb;have BR1:=Aside0.mk hbox;have HX1:=Aside0.mk hb;have GR:=Aside0.mk (show w.heap.size≤gr by rw [hg];exact Nat.le_refl _);clear hg hbox hb)|((with_reducible refine gate_callee (f:=86) rfl ?_);(try (refine gate_guard (by rfl) ?_;dsimp only));refine goesL_ (some 14) rfl rfl Try.func86 (by kernel_rfl) rfl #[.slice A0 l0.length c0] rfl ml ?_;(with_reducible refine (impl_frontBits.calls k A0 c0 l0 n _ (Kd.C_below HR0.out HX1.out) HC0.out HB_.out).mono ?_);rintro e w2 ⟨rfl,hb⟩;refine ⟨_,rfl,?_⟩;have HX2:=Aside0.mk (below_step HX1.out hb);have BR2:=Aside0.mk (blk_below BR1.out hb);clear hb;have hr0:=(blk_cell BR2.out 0).trans rfl;have hr1:=(blk_cell BR2.out 1).trans rfl;have hs0:=blk_frozen BR2.out 0;have hs1:=blk_frozen BR2.out 1)|((with_reducible refine gate_callee (f:=87) rfl ?_);(try (refine gate_guard (by rfl) ?_;dsimp only));refine goesL_ (some 20) rfl rfl Try.func87 (by kernel_rfl) rfl #[.slice A0 l0.length c0,.slice A1 l1.length c1] rfl ml ?_;(with_reducible refine (impl_FrontOk.calls k A0 c0 l0 A1 c1 l1 true _ (Kd.C_below HR0.out HX2.out) HC0.out (Kd.C_below HR1.out HX2.out) HC1.out HF_.out).mono ?_);rintro e w3 ⟨rfl,hb⟩;refine ⟨_,rfl,?_⟩;have HX3:=Aside0.mk (below_step HX2.out hb);have BR3:=Aside0.mk (blk_below BR2.out hb);clear hb hr0 hr1 hs0 hs1;have hr0:=(blk_cell BR3.out 0).trans rfl;have hr1:=(blk_cell BR3.out 1).trans rfl;have hs0:=blk_frozen BR3.out 0;have hs1:=blk_frozen BR3.out 1)|((with_reducible refine gate_dst (N:=26) rfl ?_);refine bx (N:=26) (cs:=#[.slice A1 l1.length c1,.int .i64 0,.int .i64 0,.int .i64 0,.int .i64 0,.int .i64 0,.int .i64 0,.int .i64 0,.int .i64 0]) (t:=105) ?_;intro gv hg w4 hbox hb;have BV4:Aside0 (w4.heap[gv]? = some (.cells (vcells A1 l1.length c1 (List.replicate 8 0)) 105 (0,0))):=⟨hbox⟩;have HX4:=Aside0.mk (below_step HX3.out hb);have GV:=Aside0.mk (show w.heap.size≤gv by rw [hg];exact HX3.out.size);have BR4:=Aside0.mk (blk_below BR3.out hb);have NRV:=Aside0.mk (show gr≠gv by rw [hg];exact Nat.ne_of_lt (blk_lt BR3.out));clear hr0 hr1 hs0 hs1;clear hg hbox hb)|((with_reducible refine gate_dst (N:=30) rfl ?_);refine Kd.R_make (Kd.int .u8) _ 5 rfl (N:=30) rfl 22 _ _ rfl (wrap64 (2 ^ min (IntKind.u64.wrap n).toNat 64)) rfl rfl Try.underlying22 (.int .u8 0) 1 info5 rfl (by decide) (by omega) 0 (ok:=fun _=>True) (okp:=fun _=>True) rfl (fun _ hk=>hk) trivial CS.out.1 (Nat.le_trans (Nat.mul_le_mul_right _ CS.out.2) (by omega)) (Below.refl _ _) (Nat.le_refl _) ?_;intro v102 w5 ho5 hb hg_ hnew_;clear hg_ hnew_;generalize hm_:Int.toNat (wrap64 (2 ^ min (IntKind.u64.wrap n).toNat 64))=m at ho5;have HM:=Aside0.mk hm_;clear hm_;have HO5:=Aside0.mk (Kd.R_lower ho5 HX4.out.size);have HX5:=Aside0.mk (below_step HX4.out hb);have BV5:=Aside0.mk (blk_below BV4.out hb);have BR5:=Aside0.mk (blk_below BR4.out hb);clear ho5 hb;obtain ⟨Av,cv,eb⟩:=Kd.R_slice HO5.out;rw [List.length_replicate] at eb;subst eb))
 go_loopg [33] k (fun kq v33 wr=>∃ (t:Int) (vals xs:List Int),v33 = .int .i64 t∧Aside0 (taO l0 l1 n kq t vals xs=some vs)∧Aside0 (kq≤k)∧Aside0 (xs.length=8)∧Aside0 (vals.length=m)∧Aside0 (Kd.R (Kd.int .u8) 5 wr w.heap.size (fun _=>True) (.slice Av m cv) vals)∧Aside0 (wr.heap[gv]? = some (.cells (vcells A1 l1.length c1 xs) 105 (0,0)))∧Aside0 (wr.heap[gr]? = some (.cells #[.int .i64 0,.string (⟨#[]⟩:ByteArray)] 26 (0,0)))∧Aside0 (Below w.heap.size w wr))
 case atStart=>exact ⟨0,_,_,rfl,⟨HTO.out⟩,⟨Nat.le_refl _⟩,⟨List.length_replicate⟩,⟨by rw [List.length_replicate];exact HM.out⟩,⟨by rw [HM.out];exact HO5.out⟩,BV5,BR5,HX5⟩
 case round =>
  clear HTO HO5 BV5 BR5 HX5 d1;obtain ⟨t,vals,xs,rfl,HA,HK1,X8_,HVL,HO,BV,BR,HB⟩:=hrel
  cases gk with
  | zero=>exact absurd HA.out (by simp [taO])
  | succ k1 =>
   have H:=HA.out;clear HA;simp only [taO] at H;rw [HVL.out] at H
   by_cases c4:t < (m:Int)
   ·rw [if_pos c4] at H
    by_cases c5:0≤t
    case neg=>rw [if_neg c5] at H;cases H
    rw [if_pos c5] at H;have C3:=Aside0.mk c4;have C4:=Aside0.mk c5;obtain ⟨gb,cb2,eb,GB,GL,_,_⟩:=Kd.R_form HO.out (by have:=HVL.out;omega);rw [HVL.out] at eb
    injection eb with ea_ en_ ec_
    subst ea_;subst ec_;clear en_;have GB_:=Aside0.mk GB
    have NVB:=Aside0.mk (show gv≠gb from fun e=>by
     obtain ⟨cs,hcs⟩:=Kd.R_typed HO.out gb rfl;rw [← e,BV.out] at hcs
     simp at hcs)
    have NRB:=Aside0.mk (show gr≠gb from fun e=>by
     obtain ⟨cs,hcs⟩:=Kd.R_typed HO.out gb rfl;rw [← e,BR.out] at hcs
     simp at hcs)
    clear GB GL;obtain ⟨xs',hti,H⟩:=Option.bind_eq_some_iff.1 H;obtain ⟨qv,hva,H⟩:=Option.bind_eq_some_iff.1 H;obtain ⟨sv,hsv,H⟩:=Option.bind_eq_some_iff.1 H;have HTI:=Aside0.mk hti;have HVF:=Aside0.mk hva;have HSV:=Aside0.mk hsv;have H':=Aside0.mk H;clear hti hva hsv H;have d4:decide (t < (m:Int))=true:=decide_eq_true c4;have d5:decide (0≤t)=true:=decide_eq_true c5;replace c4:=eq_true c4;replace c5:=eq_true c5;go_wp2
    go_loopg [10,39] k1 (fun kp v10 v39 wr=>∃ (at_ q:Int) (xs:List Int),v10 = .int .i64 at_∧v39 = .int .i64 q∧Aside0 (taI kp l0 t q at_ xs=some xs')∧Aside0 (kp≤k1)∧Aside0 (xs.length=8)∧Aside0 (Kd.R (Kd.int .u8) 5 wr w.heap.size (fun _=>True) (.slice (some ⟨gb,0,none⟩) m cv) vals)∧Aside0 (wr.heap[gv]? = some (.cells (vcells A1 l1.length c1 xs) 105 (0,0)))∧Aside0 (wr.heap[gr]? = some (.cells #[.int .i64 0,.string (⟨#[]⟩:ByteArray)] 26 (0,0)))∧Aside0 (Below w.heap.size w wr))
    case atStart=>exact ⟨n,0,xs,rfl,rfl,HTI,⟨Nat.le_refl _⟩,X8_,HO,BV,BR,HB⟩
    case round =>
     clear HTI X8_ HO BV BR HB;obtain ⟨at_,q,xs,rfl,rfl,HA,HK2,X8,HO,BV,BR,HB⟩:=hrel
     cases gk with
     | zero=>exact absurd HA.out (by simp [taI])
     | succ k2 =>
      have H:=HA.out;clear HA;simp only [taI] at H
      by_cases c6:q < (l0.length:Int)
      ·rw [if_pos c6] at H
       by_cases c7:0≤q
       case neg=>rw [if_neg c7] at H;cases H
       rw [if_pos c7] at H
       by_cases c8:0≤(rd_T66 l0 q).f1∧(rd_T66 l0 q).f1 < (xs.length:Int)
       case neg=>rw [if_neg c8] at H;cases H
       rw [if_pos c8] at H
       by_cases c10:0≤IntKind.u64.wrap (wrap64 (at_ - (rd_T66 l0 q).f2))
       case neg=>rw [if_neg c10] at H;cases H
       rw [if_pos c10] at H;obtain ⟨v,hcu,H⟩:=Option.bind_eq_some_iff.1 H;have HCU:=Aside0.mk hcu;have HI:=Aside0.mk H;clear hcu H;obtain ⟨ad,e_,hx0,hx1,hx2⟩:=at_T66 HR0.out q c7 c6;cases e_;replace hx0:=ct HB hx0;replace hx1:=ct HB hx1;replace hx2:=ct HB hx2;have C8:=Aside0.mk c8;obtain ⟨c8,c9⟩:=c8;rw [X8.out] at c9;have d6:decide (q < (l0.length:Int))=true:=decide_eq_true c6;have d7:decide (0≤q)=true:=decide_eq_true c7;have d10:decide (0≤IntKind.u64.wrap (wrap64 (at_ - (rd_T66 l0 q).f2)))=true:=decide_eq_true c10;replace c6:=eq_true c6;replace c7:=eq_true c7;replace c8:=eq_true c8;replace c9:((rd_T66 l0 q).f1 < 8)=True:=eq_true c9;replace c10:=eq_true c10;go_wp2_with (first|((with_reducible refine gate_dst (N:=12) rfl ?_);refine bx (N:=12) (cs:=#[.bool false,.int .i64 0,.int .i64 0]) (t:=66) ?_;intro gq hg w6 hbox hb;have BQ0:=Aside0.mk hbox;have HQ0:=Aside0.mk hb;have GQ:=Aside0.mk (show wr.heap.size≤gq by rw [hg];exact Nat.le_refl _);have hz0:w6.cell? ⟨gq,0,none⟩=some (.bool false):=(blk_cell BQ0.out 0).trans rfl;have hfz0:=blk_frozen BQ0.out 0;have hz1:w6.cell? ⟨gq,1,none⟩=some (.int .i64 0):=(blk_cell BQ0.out 1).trans rfl;have hfz1:=blk_frozen BQ0.out 1;have hz2:w6.cell? ⟨gq,2,none⟩=some (.int .i64 0):=(blk_cell BQ0.out 2).trans rfl;have hfz2:=blk_frozen BQ0.out 2;clear hg hbox hb));have hb6:Below wr.heap.size wr (((w6.setCell ⟨gq,0,none⟩ (.bool (rd_T66 l0 q).f0)).setCell ⟨gq,1,none⟩ (.int .i64 (rd_T66 l0 q).f1)).setCell ⟨gq,2,none⟩ (.int .i64 (rd_T66 l0 q).f2)):=below_set (below_set (below_set (HQ0.out) GQ.out) GQ.out) GQ.out;have BQ:Aside0 ((((w6.setCell ⟨gq,0,none⟩ (.bool (rd_T66 l0 q).f0)).setCell ⟨gq,1,none⟩ (.int .i64 (rd_T66 l0 q).f1)).setCell ⟨gq,2,none⟩ (.int .i64 (rd_T66 l0 q).f2)).heap[gq]? = some (.cells #[.bool (rd_T66 l0 q).f0,.int .i64 (rd_T66 l0 q).f1,.int .i64 (rd_T66 l0 q).f2] 66 (0,0))):=⟨blk_put (cs:=#[.bool (rd_T66 l0 q).f0,.int .i64 (rd_T66 l0 q).f1,.int .i64 0]) (blk_put (cs:=#[.bool (rd_T66 l0 q).f0,.int .i64 0,.int .i64 0]) (blk_put (cs:=#[.bool false,.int .i64 0,.int .i64 0]) (BQ0.out) 0 (.bool (rd_T66 l0 q).f0) rfl) 1 (.int .i64 (rd_T66 l0 q).f1) rfl) 2 (.int .i64 (rd_T66 l0 q).f2) rfl⟩;clear hz0 hz1 hz2 hfz0 hfz1 hfz2 BQ0 HQ0;generalize (((w6.setCell ⟨gq,0,none⟩ (.bool (rd_T66 l0 q).f0)).setCell ⟨gq,1,none⟩ (.int .i64 (rd_T66 l0 q).f1)).setCell ⟨gq,2,none⟩ (.int .i64 (rd_T66 l0 q).f2))=w7 at BQ hb6 ⊢;replace hb6:=below_drew1 hb6;replace BQ:=Aside0.mk (blk_drew BQ.out);have BV8:=Aside0.mk (blk_below BV.out hb6);have BR8:=Aside0.mk (blk_below BR.out hb6);have A2:=Aside0.mk (Kd.R_below HO.out hb6);have HB8:=Aside0.mk (below_step HB.out hb6);clear hb6;refine start_ (n:=14) (S:=fun w'=>w'.cell? ⟨gq,0,none⟩=some (.bool (rd_T66 l0 q).f0)∧w'.cell? ⟨gq,1,none⟩=some (.int .i64 (rd_T66 l0 q).f1)∧w'.cell? ⟨gq,2,none⟩=some (.int .i64 (rd_T66 l0 q).f2)) (ds:=[13]) (tf 0 14) (by kernel_rfl) rfl rfl ⟨(blk_cell BQ.out 0).trans rfl,(blk_cell BQ.out 1).trans rfl,(blk_cell BQ.out 2).trans rfl⟩ (fun hHeld=>?_);generalize w7.drew=w8 at BQ BV8 BR8 A2 HB8 hHeld ⊢;refine pure_ (i:=0) (N:=some 47) (v:=?_) (a':=?_) (tf 1 13) rfl rfl (by kernel_rfl) (fun _ _ _ h=>h) (Or.inl ⟨by rfl,?_⟩) ?_ ?_;rotate_left
       ·intro w';go_simp;with_reducible rfl
       rotate_left
       ·simp only [Act.put,s1,s2,s3,i64_w,i32_w];rfl
       refine pure_ (i:=1) (N:=some 48) (v:=?_) (a':=?_) (tf 2 12) rfl rfl (by kernel_rfl) (fun _ _ _ h=>h) (Or.inl ⟨by rfl,?_⟩) ?_ ?_;rotate_left
       ·intro w';go_simp;with_reducible rfl
       rotate_left
       ·simp only [Act.put,s1,s2,s3,i64_w,i32_w];rfl
       refine pure_ (i:=3) (N:=some 50) (v:=?_) (a':=?_) #[true,true,false,true,false,false,false,false,false,false,false,false,false,false] rfl rfl (by kernel_rfl) (fun _ _ _ h=>h) (Or.inl ⟨by rfl,?_⟩) ?_ ?_;rotate_left
       ·intro w';go_simp;with_reducible rfl
       rotate_left
       ·simp only [Act.put,s1,s2,s3,i64_w,i32_w];rfl
       refine pure_ (i:=5) (N:=some 52) (v:=?_) (a':=?_) #[true,true,false,true,false,true,false,false,false,false,false,false,false,false] rfl rfl (by kernel_rfl) (fun _ _ _ h=>h) (Or.inl ⟨by rfl,?_⟩) ?_ ?_;rotate_left
       ·intro w';go_simp;with_reducible rfl
       rotate_left
       ·simp only [Act.put,s1,s2,s3,i64_w,i32_w];rfl
       refine pure_ (i:=6) (N:=some 53) (v:=?_) (a':=?_) #[true,true,false,true,false,true,true,false,false,false,false,false,false,false] rfl rfl (by kernel_rfl) (fun _ _ _ h=>h) (Or.inl ⟨by rfl,?_⟩) ?_ ?_;rotate_left
       ·intro w';go_simp;with_reducible rfl
       rotate_left
       ·simp only [Act.put,s1,s2,s3,i64_w,i32_w];rfl
       refine pure_ (i:=7) (N:=some 54) (v:=?_) (a':=?_) #[true,true,false,true,false,true,true,true,false,false,false,false,false,false] rfl rfl (by kernel_rfl) (fun _ _ _ h=>h) (Or.inl ⟨by rfl,?_⟩) ?_ ?_;rotate_left
       ·intro w';go_simp;with_reducible rfl
       rotate_left
       ·simp only [Act.put,s1,s2,s3,i64_w,i32_w];rfl
       refine pure_ (i:=8) (N:=some 55) (v:=?_) (a':=?_) #[true,true,false,true,false,true,true,true,true,false,false,false,false,false] rfl rfl (by kernel_rfl) (fun _ _ _ h=>h) (Or.inl ⟨by rfl,?_⟩) ?_ ?_;rotate_left
       ·intro w';go_simp;with_reducible rfl
       rotate_left
       ·simp only [Act.put,s1,s2,s3,i64_w,i32_w];rfl
       refine pure_ (i:=10) (N:=some 57) (v:=?_) (a':=?_) #[true,true,false,true,false,true,true,true,true,false,true,false,false,false] rfl rfl (by kernel_rfl) (fun _ _ _ h=>h) (Or.inl ⟨by rfl,?_⟩) ?_ ?_;rotate_left
       ·intro w';go_simp;with_reducible rfl
       rotate_left
       ·simp only [Act.put,s1,s2,s3,i64_w,i32_w];rfl
       refine pure_ (i:=11) (N:=some 58) (v:=?_) (a':=?_) #[true,true,false,true,false,true,true,true,true,false,true,true,false,false] rfl rfl (by kernel_rfl) (fun _ _ _ h=>h) (Or.inl ⟨by rfl,?_⟩) ?_ ?_;rotate_left
       ·intro w';go_simp;with_reducible rfl
       rotate_left
       ·simp only [Act.put,s1,s2,s3,i64_w,i32_w];rfl
       refine take_ (i:=2) (N:=some 49) (v:=?_) (a':=?_) #[true,true,true,true,false,true,true,true,true,false,true,true,false,false] rfl rfl (by kernel_rfl) (fun _ _ _ h=>h) (Or.inl ⟨by rfl,?_⟩) hHeld ?_ ?_;rotate_left
       ·rintro w' ⟨s0,s1,s2⟩;go_simp;with_reducible rfl
       rotate_left
       ·simp only [Act.put,s1,s2,s3,i64_w,i32_w];rfl
       refine take_ (i:=4) (N:=some 51) (v:=?_) (a':=?_) #[true,true,true,true,true,true,true,true,true,false,true,true,false,false] rfl rfl (by kernel_rfl) (fun _ _ _ h=>h) (Or.inl ⟨by rfl,?_⟩) hHeld ?_ ?_;rotate_left
       ·rintro w' ⟨s0,s1,s2⟩;go_simp;with_reducible rfl
       rotate_left
       ·simp only [Act.put,s1,s2,s3,i64_w,i32_w];rfl
       refine one_ (i:=9) (N:=some 56) (tf 12 2) rfl rfl (by kernel_rfl) (by decide) (fun K hK=>?_);refine goes_ Try.func64 (by kernel_rfl) rfl #[.int .i64 (rd_T66 l0 q).f2,.int .i64 (shr .i64 t (IntKind.u64.wrap (wrap64 (at_ - (rd_T66 l0 q).f2))))] (by rfl) rfl rfl (by simp only [List.map_toArray,List.map_cons,List.map_nil];rfl) ?_
       with_reducible refine (impl_cut.calls _ _ v _ HCU.out).mono ?_
       rintro e w9 ⟨rfl,hd⟩;refine ⟨_,rfl,?_⟩
       have hb:Below w8.heap.size w8 w9:=by obtain ⟨nd,rfl⟩:=hd;exact pw_below_drewN (Below.refl _ _) _
       have BQ9:=Aside0.mk (blk_below BQ.out hb);have BV9:=Aside0.mk (blk_below BV8.out hb);have BR9:=Aside0.mk (blk_below BR8.out hb);have HO9:=Aside0.mk (Kd.R_below A2.out hb);have HB9:=Aside0.mk (below_step HB8.out hb);clear hb hd;have hcv9:=v_cell BV9.out _ C8.out.1 C8.out.2;have hfv9:=blk_frozen BV9.out (1 + (rd_T66 l0 q).f1.toNat);refine hK.out _ _ ⟨(blk_cell BQ9.out 0).trans rfl,(blk_cell BQ9.out 1).trans rfl,(blk_cell BQ9.out 2).trans rfl⟩ (fun hHeld=>?_);clear hK K;refine norm_ (a':=?_) ?_ ?_;rotate_left
       ·show Act.put _ (some 56) _=_
        simp only [Act.put,s1,s2,s3,i64_w,i32_w];rfl
       refine pure_ (i:=12) (N:=some 59) (v:=?_) (a':=?_) (tf 13 1) rfl rfl (by kernel_rfl) (fun _ _ _ h=>h) (Or.inl ⟨by rfl,?_⟩) ?_ ?_;rotate_left
       ·intro w';go_simp;with_reducible rfl
       rotate_left
       ·simp only [Act.put,s1,s2,s3,i64_w,i32_w];rfl
       refine last_ (i:=13) (N:=none) (tf 14 0) rfl rfl (by kernel_rfl) (by decide) (fun K hK=>?_);refine skip_ (w1:=?_) (by rfl) rfl ?_ ?_;rotate_left
       ·go_simp;rfl
       refine hK.out _ _ ?_;clear hK K;refine done_ (by kernel_rfl) ?_;go_wp2;go_roundg k2
       case measure=>have:=HK2.out;omega
       case rel=>exact ⟨(wrap64 (at_ - (rd_T66 l0 q).f2)),wrap64 (q + 1),_,(by first|rfl|(simp;done)),(by first|rfl|(simp;done)),HI,⟨by have:=HK2.out;omega⟩,⟨by rw [List.length_set];exact X8.out⟩,⟨Kd.R_set HO9.out BV9.out (by decide) _ _⟩,⟨v_put BV9.out _ _⟩,⟨blk_far BR9.out (NRV.out) _⟩,⟨below_set HB9.out GV.out⟩⟩
      ·rw [if_neg c6] at H;have d6:decide (q < (l0.length:Int))=false:=decide_eq_false c6;clear c6;obtain rfl:=os H;clear H;go_wp2_with (first|((with_reducible refine gate_callee (f:=90) rfl ?_);(try (refine gate_guard (by rfl) ?_;dsimp only));refine goesL_ (some 68) rfl rfl Try.func90 (by kernel_rfl) rfl #[.pointer (some ⟨gv,0,none⟩)] rfl ml ?_;(with_reducible refine (blank_calls A1 l1.length c1 xs gv _ BV.out SZ.out.2).mono ?_);rintro e w7 ⟨v_,rfl,ho,hb⟩;refine ⟨_,rfl,?_⟩;obtain ⟨go,cb,eb,GO,GL,_⟩:=Kd.R_form ho (by have:=SZ.out;simp;omega);rw [List.length_replicate] at eb;subst eb;have HK7:=Aside0.mk ho;have HB7:=Aside0.mk hb;clear ho hb GO GL)|((with_reducible refine gate_callee (f:=89) rfl ?_);(try (refine gate_guard (by rfl) ?_;dsimp only));refine goesL_ (some 69) rfl rfl Try.func89 (by kernel_rfl) rfl #[.pointer (some ⟨gv,0,none⟩),.int .i64 (wrap64 ((l1.length:Int) - 1)),.slice (some ⟨go,0,none⟩) l1.length cb] rfl ml ?_;(with_reducible refine (value_calls l1 A1 c1 HC1.out xs X8.out wr (Kd.C_below HR1.out HB.out) gv go l1.length cb k1 (wrap64 ((l1.length:Int) - 1)) (List.replicate l1.length (-1)) qv _ HB7.out (blk_below BV.out HB7.out) HK7.out HVF.out).mono ?_);rintro e w8 ⟨rfl,hk,hg,hb⟩;refine ⟨_,rfl,?_⟩;have BV8:=Aside0.mk (blk_below BV.out hb);have BR8:=Aside0.mk (blk_below BR.out hb);have A2:=Aside0.mk (Kd.R_below HO.out hb);have HB8:=Aside0.mk (below_step HB.out hb);clear hk hg hb;obtain ⟨hv8,hf8⟩:=bt_get A2.out t C4.out C3.out;have hp8:=Aside0.mk (bt_put (Kd.R_drewN A2.out 1) t sv))|(go_at_call 88;(try simp only [i64_w,i32_w]);(with_reducible refine (impl_sign.calls qv.1 sv _ HSV.out).mono ?_);rintro e w' ⟨rfl,⟨nd,rfl⟩⟩));go_roundg k1
       case measure=>have:=HK1.out;omega
       case rel=>exact ⟨wrap64 (t + 1),_,xs,(by first|rfl|(simp;done)),H',⟨by have:=HK1.out;omega⟩,X8,⟨by rw [List.length_set];exact HVL.out⟩,⟨(bt_put (Kd.R_drewN A2.out _) t sv).1⟩,⟨blk_far (blk_drewN BV8.out _) (NVB.out) _⟩,⟨blk_far (blk_drewN BR8.out _) (NRB.out) _⟩,⟨below_set (pw_below_drewN HB8.out _) GB_.out⟩⟩
   ·rw [if_neg c4] at H;have d4:decide (t < (m:Int))=false:=decide_eq_false c4;clear c4;obtain rfl:=os H;clear H;have hcv24:=own_string (P:=Try.prog) Try.underlying22 Try.underlying5 Try.underlying9 (Kd.own_of_R HO.out);have hr0:=(blk_cell BR.out 0).trans rfl;have hr1:=(blk_cell BR.out 1).trans rfl;have hs0:=blk_frozen BR.out 0;have hs1:=blk_frozen BR.out 1;go_wp2;refine bodyPost_ret (results_ct rfl _ _ gr 26 #[.int .i64 n,.string (strOfNums vals)] (0,0) _ rfl (by refine blk_put (cs:=#[.int .i64 n,.string (⟨#[]⟩:ByteArray)]) ?_ 1 _ rfl;refine blk_put (cs:=#[.int .i64 0,.string (⟨#[]⟩:ByteArray)]) ?_ 0 _ rfl;exact BR.out) Try.underlying26 rfl (by kernel_rfl)) rfl ?_;exact ⟨rfl,below_set (below_set HB.out GR.out) GR.out⟩
def impl_HoldsFront.f (k:Nat) (l0:List (S66)) (l1:List (S99)):Option (Int × Bool):=(impl_TableOf.f k l0 l1).bind fun bt101=>(if bt101.2.2=true then ((impl_Rows.f k l0).bind fun A9=>((impl_Decide.f k A9 bt101.1 bt101.2.1).bind fun bt108=>(some (bt108.1,bt108.2)))) else (some (0,false)))
def impl_HoldsFront.T4:Bool × List (List Nat × List Nat):=(true,[([],[]),([0],[0]),([],[]),([1,2,1],[1,2]),([3],[3]),([3],[3]),([4,3,0,1,2,3,4,5],[4]),([5,6,0,1,2,3,4,5,6],[5])])
def impl_HoldsFront.B4:List Nat:=[0,1,0,7,15,15,63,127]
theorem impl_HoldsFront.tab4:rtab .any (opsOf Try.f42 4)=impl_HoldsFront.T4:=by kernel_rfl
theorem impl_HoldsFront.bits4:waitsOk impl_HoldsFront.T4.2 impl_HoldsFront.B4=true:=by kernel_rfl
set_option maxHeartbeats 8000000 in
set_option maxRecDepth 100000 in
theorem impl_HoldsFront.calls (k:Nat) (A0:Option Addr) (c0:Nat) (l0:List (S66)) (A1:Option Addr) (c1:Nat) (l1:List (S99)) (r1:Int) (r2:Bool) (w:World) (hr0:Kd.C k66 w A0 l0.length l0) (hc0:l0.length≤c0) (hr1:Kd.C k99 w A1 l1.length l1) (hc1:l1.length≤c1) (h:impl_HoldsFront.f k l0 l1=some (r1,r2)) :
  Calls Try.prog 42 #[.slice A0 l0.length c0,.slice A1 l1.length c1] w fun e w'=>e = .returned (.tuple #[.int .i64 r1,.bool r2])∧Below w.heap.size w w':=by
 have hu26:=Try.underlying26;have HR0:=Aside0.mk hr0;have HC0:=Aside0.mk hc0;clear hr0 hc0;have HR1:=Aside0.mk hr1;have HC1:=Aside0.mk hc1;clear hr1 hc1;have HB:=Aside0.mk (Below.refl w.heap.size w);have H:((impl_TableOf.f k l0 l1).bind fun bt101=>(if bt101.2.2=true then ((impl_Rows.f k l0).bind fun A9=>((impl_Decide.f k A9 bt101.1 bt101.2.1).bind fun bt108=>(some (bt108.1,bt108.2)))) else (some (0,false))))=some (r1,r2):=h;clear h;replace H:=ob H;obtain ⟨⟨A7,A8,Ab⟩,A30,H⟩:=H;replace H:(if Ab=true then ((impl_Rows.f k l0).bind fun A9=>((impl_Decide.f k A9 A7 A8).bind fun bt108=>(some (bt108.1,bt108.2)))) else (some (0,false)))=some (r1,r2):=H;have A3:=Aside0.mk A30;clear A30
 by_cases c4:Ab=true
 ·subst c4
  have H1:((impl_Rows.f k l0).bind fun A9=>((impl_Decide.f k A9 A7 A8).bind fun bt108=>(some (bt108.1,bt108.2))))=some (r1,r2):=by rw [if_pos rfl] at H;exact H
  clear H;have H:=H1;clear H1;replace H:=ob H;obtain ⟨A9,A50,H⟩:=H;replace H:((impl_Decide.f k A9 A7 A8).bind fun bt108=>(some (bt108.1,bt108.2)))=some (r1,r2):=H;have A5:=Aside0.mk A50;clear A50;replace H:=ob H;obtain ⟨⟨Ac,Ad⟩,A60,H⟩:=H;replace H:(some (Ac,Ad))=some (r1,r2):=H;have A6:=Aside0.mk A60;clear A60;simp only [Option.some.injEq,Prod.mk.injEq] at H;obtain ⟨rfl,rfl⟩:=H
  go_enter Try.func42,Try.ntmps42
  try go_wp2_with (first|((with_reducible refine gate_callee (f:=37) rfl ?_);refine goesL_ (some 11) rfl rfl Try.func37 (by kernel_rfl) rfl #[.slice A0 l0.length c0,.slice A1 l1.length c1] rfl ml ?_;(with_reducible refine (impl_TableOf.calls k _ _ l0 _ _ l1 A7 A8 true _ ?side1 ?side2 ?side3 ?side4 A3.out).mono ?_);(case side1=>exact cw HR0.out);(case side2=>exact HC0.out);(case side3=>exact cw HR1.out);(case side4=>exact HC1.out);rintro e w7 ⟨rfl,hb⟩;refine ⟨_,rfl,?_⟩;replace HB:=Aside0.mk (below_step (tb HB) hb);(try clear hb);(try clear hb2);(try clear hk);(try clear hi))|((with_reducible refine gate_dst (N:=6) rfl ?_);refine bx (N:=6) (cs:=#[.int .i64 0,.string (⟨#[]⟩:ByteArray)]) (t:=26) ?_;intro A4 hg w8 hbox hb;have A2:=Aside0.mk (hbox);have Ae:=Aside0.mk ((by rw [hg];exact (below_size (tb HB)):w.heap.size≤A4));have Af:=Aside0.mk ((by rw [hg];exact (below_size (tb HB)):w.heap.size≤A4));replace HB:=Aside0.mk (below_step (tb HB) hb);clear hb hbox hg;have hcz9__:=c2_ A2;have hfz9__:=f_ A2))
  have n0_:Aside0 (((w8.setCell ⟨A4,0,none⟩ (.int .i64 A7)).setCell ⟨A4,1,none⟩ (.string A8)).heap[A4]? = some (.cells #[.int .i64 A7,.string A8] 26 (0,0))):=⟨by (with_reducible repeat (first|refine blk_drewN ?_ _|refine blk_drew ?_|refine blk_alloc ?_ _));refine blk_put (cs:=#[.int .i64 A7,.string (⟨#[]⟩:ByteArray)]) ?_ 1 _ rfl;(with_reducible repeat (first|refine blk_drewN ?_ _|refine blk_drew ?_|refine blk_alloc ?_ _));refine blk_put (cs:=#[.int .i64 0,.string (⟨#[]⟩:ByteArray)]) ?_ 0 _ rfl;(with_reducible repeat (first|refine blk_drewN ?_ _|refine blk_drew ?_|refine blk_alloc ?_ _));exact A2.out⟩;have n1_:Aside0 (Below w.heap.size w ((w8.setCell ⟨A4,0,none⟩ (.int .i64 A7)).setCell ⟨A4,1,none⟩ (.string A8))):=⟨by exact tb HB⟩;(try clear A2);(try clear HB);generalize ((w8.setCell ⟨A4,0,none⟩ (.int .i64 A7)).setCell ⟨A4,1,none⟩ (.string A8))=w10 at n0_ n1_ ⊢;have A2:=n0_;have HB:=n1_;clear n0_ n1_;have n0_:=Aside0.mk (blk_drew A2.out);have n1_:=Aside0.mk (below_drew1 HB.out);clear A2;clear HB;have A2:=n0_;have HB:=n1_;clear n0_ n1_;refine start_ (n:=8) (S:=fun w'=>w'.cell? ⟨A4,0,none⟩=some (.int .i64 A7)∧w'.cell? ⟨A4,1,none⟩=some (.string A8)) (ds:=[]) (tf 0 8) (by kernel_rfl) rfl rfl ⟨(blk_cell A2.out 0).trans rfl,(blk_cell A2.out 1).trans rfl⟩ (fun hHeld=>?_);refine with_tabW impl_HoldsFront.tab4 impl_HoldsFront.bits4 (fun HT_ HW_=>?_);generalize w10.drew=w11 at A2 HB hHeld ⊢;refine pure_ (i:=0) (N:=some 16) (v:=?_) (a':=?_) (tf 1 7) rfl rfl (any_of HT_.out (by kernel_rfl)) (fun _ _ _ h=>h) (Or.inl ⟨by rfl,?_⟩) ?_ ?_;rotate_left
  ·intro w';go_simp;with_reducible rfl
  rotate_left
  ·simp only [Act.put,s1,s2,s3,i64_w,i32_w];rfl
  refine take_ (i:=2) (N:=some 18) (v:=?_) (a':=?_) #[true,false,true,false,false,false,false,false] rfl rfl (take_ofW HT_.out HW_.out (by kernel_rfl)) (fun _ _ _ h=>h) (Or.inl ⟨by rfl,?_⟩) hHeld ?_ ?_;rotate_left
  ·rintro w' ⟨s0,s1⟩;go_simp;with_reducible rfl
  rotate_left
  ·simp only [Act.put,s1,s2,s3,i64_w,i32_w];rfl
  refine one_ (i:=1) (N:=some 17) (tf 3 5) rfl rfl (one_of HT_.out (by kernel_rfl)) (by decide) (fun K hK=>?_);refine goes_ Try.func94 (by kernel_rfl) rfl #[.slice A0 l0.length c0] (by rfl) rfl rfl ml ?_
  with_reducible refine (impl_Rows.calls k _ _ l0 A9 _ ?side1 ?side2 A5.out).mono ?_
  (case side1=>exact cw (Kd.C_below HR0.out HB.out))
  (case side2=>exact HC0.out)
  rintro e w12 ⟨v106,rfl,ho0,hb⟩;refine ⟨_,rfl,?_⟩;have n0_:=Aside0.mk (Kd.R_lower ho0 (below_size (tb HB)));have n1_:=Aside0.mk (blk_below (g:=A4) (o := .cells #[.int .i64 A7,.string A8] 26 (0,0)) (dr A2) hb);have n2_:=Aside0.mk (below_step (tb HB) hb);clear A2;clear HB;have Aa:=n0_;have A2:=n1_;have HB:=n2_;clear n0_ n1_ n2_;(try clear hb);(try clear hb2);(try clear hk);(try clear hi);(try clear ho0);obtain ⟨Ao13,co13,eo13⟩:=Kd.R_slice Aa.out;(first|subst eo13|(injection eo13 with f1_ f2_ f3_;have f4_:=f1_.symm;have f5_:=f3_.symm;clear f1_ f2_ f3_;subst f4_;subst f5_));refine hK.out _ _ ⟨(blk_cell A2.out 0).trans rfl,(blk_cell A2.out 1).trans rfl⟩ (fun hHeld=>?_);clear hK K;refine norm_ (a':=?_) ?_ ?_;rotate_left
  ·show Act.put _ (some 17) _=_
   simp only [Act.put,s1,s2,s3,i64_w,i32_w];rfl
  refine one_ (i:=3) (N:=some 19) (tf 4 4) rfl rfl (one_of HT_.out (by kernel_rfl)) (by decide) (fun K hK=>?_);refine goes_ Try.func13 (by kernel_rfl) rfl #[.slice Ao13 A9.length co13,.agg #[.int .i64 A7,.string A8]] (by rfl) rfl rfl ml ?_
  with_reducible refine (impl_Decide.calls k _ _ A9 A7 A8 Ac Ad _ ?side1 ?side2 A6.out).mono ?_
  (case side1=>exact cw (Kd.R_reads' Aa.out).2.2)
  (case side2=>exact (Kd.R_reads' Aa.out).2.1)
  rintro e w14 ⟨rfl,hb⟩;refine ⟨_,rfl,?_⟩;have n0_:=Aside0.mk (Kd.R_below (ra Aa) hb);have n1_:=Aside0.mk (blk_below (g:=A4) (o := .cells #[.int .i64 A7,.string A8] 26 (0,0)) (dr A2) hb);have n2_:=Aside0.mk (below_step (tb HB) hb);clear Aa;clear A2;clear HB;have Aa:=n0_;have A2:=n1_;have HB:=n2_;clear n0_ n1_ n2_;(try clear hb);(try clear hb2);(try clear hk);(try clear hi);refine hK.out _ _ ⟨(blk_cell A2.out 0).trans rfl,(blk_cell A2.out 1).trans rfl⟩ (fun hHeld=>?_);clear hK K;refine norm_ (a':=?_) ?_ ?_;rotate_left
  ·show Act.put _ (some 19) _=_
   simp only [Act.put,s1,s2,s3,i64_w,i32_w];rfl
  refine pure_ (i:=4) (N:=some 20) (v:=?_) (a':=?_) (tf 5 3) rfl rfl (any_of HT_.out (by kernel_rfl)) (fun _ _ _ h=>h) (Or.inl ⟨by rfl,?_⟩) ?_ ?_;rotate_left
  ·intro w';go_simp;with_reducible rfl
  rotate_left
  ·simp only [Act.put,s1,s2,s3,i64_w,i32_w];rfl
  refine pure_ (i:=5) (N:=some 21) (v:=?_) (a':=?_) (tf 6 2) rfl rfl (any_of HT_.out (by kernel_rfl)) (fun _ _ _ h=>h) (Or.inl ⟨by rfl,?_⟩) ?_ ?_;rotate_left
  ·intro w';go_simp;with_reducible rfl
  rotate_left
  ·simp only [Act.put,s1,s2,s3,i64_w,i32_w];rfl
  refine pure_ (i:=6) (N:=some 4) (v:=?_) (a':=?_) (tf 7 1) rfl rfl (any_of HT_.out (by kernel_rfl)) (fun _ _ _ h=>h) (Or.inl ⟨by rfl,?_⟩) ?_ ?_;rotate_left
  ·intro w';go_simp;with_reducible rfl
  rotate_left
  ·simp only [Act.put,s1,s2,s3,i64_w,i32_w];rfl
  refine pure_ (i:=7) (N:=some 5) (v:=?_) (a':=?_) (tf 8 0) rfl rfl (any_of HT_.out (by kernel_rfl)) (fun _ _ _ h=>h) (Or.inl ⟨by rfl,?_⟩) ?_ ?_;rotate_left
  ·intro w';go_simp;with_reducible rfl
  rotate_left
  ·simp only [Act.put,s1,s2,s3,i64_w,i32_w];rfl
  refine done_ (done_of HT_.out (by kernel_rfl)) ?_
  try go_wp2
  go_ret2;exact ⟨er,tb HB⟩
 ·replace c4:=Bool.eq_false_iff.mpr c4;subst c4
  have H1:(some (0,false))=some (r1,r2):=by rw [if_neg (show ¬ (false=true) by decide)] at H;exact H
  clear H;have H:=H1;clear H1;simp only [Option.some.injEq,Prod.mk.injEq] at H;obtain ⟨rfl,rfl⟩:=H
  go_enter Try.func42,Try.ntmps42
  go_wp2_with (first|((with_reducible refine gate_callee (f:=37) rfl ?_);refine goesL_ (some 11) rfl rfl Try.func37 (by kernel_rfl) rfl #[.slice A0 l0.length c0,.slice A1 l1.length c1] rfl ml ?_;(with_reducible refine (impl_TableOf.calls k _ _ l0 _ _ l1 A7 A8 false _ ?side1 ?side2 ?side3 ?side4 A3.out).mono ?_);(case side1=>exact cw HR0.out);(case side2=>exact HC0.out);(case side3=>exact cw HR1.out);(case side4=>exact HC1.out);rintro e w15 ⟨rfl,hb⟩;refine ⟨_,rfl,?_⟩;replace HB:=Aside0.mk (below_step (tb HB) hb);(try clear hb);(try clear hb2);(try clear hk);(try clear hi))|((with_reducible refine gate_dst (N:=6) rfl ?_);refine bx (N:=6) (cs:=#[.int .i64 0,.string (⟨#[]⟩:ByteArray)]) (t:=26) ?_;intro A4 hg w16 hbox hb;have A2:=Aside0.mk (hbox);have Ae:=Aside0.mk ((by rw [hg];exact (below_size (tb HB)):w.heap.size≤A4));have Af:=Aside0.mk ((by rw [hg];exact (below_size (tb HB)):w.heap.size≤A4));replace HB:=Aside0.mk (below_step (tb HB) hb);clear hb hbox hg;have hcz17__:=c2_ A2;have hfz17__:=f_ A2));go_ret2;exact ⟨er,tb HB⟩
def laws_eqNode.f (A5:Int) (A6:Int) (A7:Int) (A8:Int) (A9:Int) (Aa:Int) (a1_0:Int) (a1_1:Int) (a1_2:Int) (a1_3:Int) (a1_4:Int) (a1_5:Int):Option (Bool):=if A5=a1_0 then (if A6=a1_1 then (if A7=a1_2 then (if A8=a1_3 then (if A9=a1_4 then (if Aa=a1_5 then (some true) else (some false)) else (some false)) else (some false)) else (some false)) else (some false)) else (some false)
set_option maxHeartbeats 8000000 in
set_option maxRecDepth 100000 in
theorem laws_eqNode.calls (A5:Int) (A6:Int) (A7:Int) (A8:Int) (A9:Int) (Aa:Int) (a1_0:Int) (a1_1:Int) (a1_2:Int) (a1_3:Int) (a1_4:Int) (a1_5:Int) (r:Bool) (w:World) (h:laws_eqNode.f A5 A6 A7 A8 A9 Aa a1_0 a1_1 a1_2 a1_3 a1_4 a1_5=some r) :
  Calls Try.prog 92 #[.agg #[.int .i64 A5,.int .i64 A6,.int .i64 A7,.int .i64 A8,.int .i64 A9,.int .i64 Aa],.agg #[.int .i64 a1_0,.int .i64 a1_1,.int .i64 a1_2,.int .i64 a1_3,.int .i64 a1_4,.int .i64 a1_5]] w fun e w'=>e = .returned (.bool r)∧Below w.heap.size w w':=by
 have hu99:=Try.underlying99;have HB:=Aside0.mk (Below.refl w.heap.size w);have H:(if A5=a1_0 then (if A6=a1_1 then (if A7=a1_2 then (if A8=a1_3 then (if A9=a1_4 then (if Aa=a1_5 then (some true) else (some false)) else (some false)) else (some false)) else (some false)) else (some false)) else (some false))=some r:=h;clear h
 by_cases c3:A5=a1_0
 ·rw [if_pos c3] at H;have c3b0:(A5 == a1_0)=true:=beq_iff_eq.mpr c3;have c3b1:(A5 != a1_0)=false:=bne_eq_false_iff_eq.mpr c3;clear c3
  by_cases c4:A6=a1_1
  ·rw [if_pos c4] at H;have c4b0:(A6 == a1_1)=true:=beq_iff_eq.mpr c4;have c4b1:(A6 != a1_1)=false:=bne_eq_false_iff_eq.mpr c4;clear c4
   by_cases c5:A7=a1_2
   ·rw [if_pos c5] at H;have c5b0:(A7 == a1_2)=true:=beq_iff_eq.mpr c5;have c5b1:(A7 != a1_2)=false:=bne_eq_false_iff_eq.mpr c5;clear c5
    by_cases c6:A8=a1_3
    ·rw [if_pos c6] at H;have c6b0:(A8 == a1_3)=true:=beq_iff_eq.mpr c6;have c6b1:(A8 != a1_3)=false:=bne_eq_false_iff_eq.mpr c6;clear c6
     by_cases c7:A9=a1_4
     ·rw [if_pos c7] at H;have c7b0:(A9 == a1_4)=true:=beq_iff_eq.mpr c7;have c7b1:(A9 != a1_4)=false:=bne_eq_false_iff_eq.mpr c7;clear c7
      by_cases c8:Aa=a1_5
      ·rw [if_pos c8] at H;have c8b0:(Aa == a1_5)=true:=beq_iff_eq.mpr c8;have c8b1:(Aa != a1_5)=false:=bne_eq_false_iff_eq.mpr c8;clear c8;obtain rfl:=os H
       go_enter Try.func92,Try.ntmps92
       go_wp2_with (first|((with_reducible refine gate_dst (N:=2) rfl ?_);refine bx (N:=2) (cs:=#[.int .i64 A5,.int .i64 A6,.int .i64 A7,.int .i64 A8,.int .i64 A9,.int .i64 Aa]) (t:=99) ?_;intro A0 hg w9 hbox hb;have A1:=Aside0.mk (hbox);have Ac:=Aside0.mk ((by rw [hg];exact (below_size (tb HB)):w.heap.size≤A0));have Ad:=Aside0.mk ((by rw [hg];exact (below_size (tb HB)):w.heap.size≤A0));replace HB:=Aside0.mk (below_step (tb HB) hb);clear hb hbox hg)|((with_reducible refine gate_dst (N:=3) rfl ?_);refine bx (N:=3) (cs:=#[.int .i64 a1_0,.int .i64 a1_1,.int .i64 a1_2,.int .i64 a1_3,.int .i64 a1_4,.int .i64 a1_5]) (t:=99) ?_;intro A2 hg w10 hbox hb;have Ab:=Aside0.mk (hbox);have Ae:=Aside0.mk ((by rw [hg];exact (below_size (tb HB)):w.heap.size≤A2));have Af:=Aside0.mk ((by rw [hg];exact (below_size (tb HB)):w.heap.size≤A2));replace HB:=Aside0.mk (below_step (tb HB) hb);have A3:=Aside0.mk ((by rw [hg];exact Nat.ne_of_lt (blk_lt (g:=A0) (o := .cells #[.int .i64 A5,.int .i64 A6,.int .i64 A7,.int .i64 A8,.int .i64 A9,.int .i64 Aa] 99 (0,0)) (dr A1)):A0≠A2));have A4:=Aside0.mk ((by rw [hg];exact Nat.ne_of_gt (blk_lt (g:=A0) (o := .cells #[.int .i64 A5,.int .i64 A6,.int .i64 A7,.int .i64 A8,.int .i64 A9,.int .i64 Aa] 99 (0,0)) (dr A1)):A2≠A0));replace A1:=Aside0.mk (blk_below (g:=A0) (o := .cells #[.int .i64 A5,.int .i64 A6,.int .i64 A7,.int .i64 A8,.int .i64 A9,.int .i64 Aa] 99 (0,0)) (dr A1) hb);clear hb hbox hg;have hnb11:=A3.out;have hnc11:=A4.out;have hcz12__:=c6_ A1;have hfz12__:=f_ A1;have hcz13__:=c6_ Ab;have hfz13__:=f_ Ab));go_ret;exact ⟨er,tb HB⟩
      ·rw [if_neg c8] at H;have c8b0:(Aa == a1_5)=false:=beq_eq_false_iff_ne.mpr c8;have c8b1:(Aa != a1_5)=true:=bne_iff_ne.mpr c8;obtain rfl:=os H
       go_enter Try.func92,Try.ntmps92
       go_wp2_with (first|((with_reducible refine gate_dst (N:=2) rfl ?_);refine bx (N:=2) (cs:=#[.int .i64 A5,.int .i64 A6,.int .i64 A7,.int .i64 A8,.int .i64 A9,.int .i64 Aa]) (t:=99) ?_;intro A0 hg w14 hbox hb;have A1:=Aside0.mk (hbox);have Ac:=Aside0.mk ((by rw [hg];exact (below_size (tb HB)):w.heap.size≤A0));have Ad:=Aside0.mk ((by rw [hg];exact (below_size (tb HB)):w.heap.size≤A0));replace HB:=Aside0.mk (below_step (tb HB) hb);clear hb hbox hg)|((with_reducible refine gate_dst (N:=3) rfl ?_);refine bx (N:=3) (cs:=#[.int .i64 a1_0,.int .i64 a1_1,.int .i64 a1_2,.int .i64 a1_3,.int .i64 a1_4,.int .i64 a1_5]) (t:=99) ?_;intro A2 hg w15 hbox hb;have Ab:=Aside0.mk (hbox);have Ae:=Aside0.mk ((by rw [hg];exact (below_size (tb HB)):w.heap.size≤A2));have Af:=Aside0.mk ((by rw [hg];exact (below_size (tb HB)):w.heap.size≤A2));replace HB:=Aside0.mk (below_step (tb HB) hb);have A3:=Aside0.mk ((by rw [hg];exact Nat.ne_of_lt (blk_lt (g:=A0) (o := .cells #[.int .i64 A5,.int .i64 A6,.int .i64 A7,.int .i64 A8,.int .i64 A9,.int .i64 Aa] 99 (0,0)) (dr A1)):A0≠A2));have A4:=Aside0.mk ((by rw [hg];exact Nat.ne_of_gt (blk_lt (g:=A0) (o := .cells #[.int .i64 A5,.int .i64 A6,.int .i64 A7,.int .i64 A8,.int .i64 A9,.int .i64 Aa] 99 (0,0)) (dr A1)):A2≠A0));replace A1:=Aside0.mk (blk_below (g:=A0) (o := .cells #[.int .i64 A5,.int .i64 A6,.int .i64 A7,.int .i64 A8,.int .i64 A9,.int .i64 Aa] 99 (0,0)) (dr A1) hb);clear hb hbox hg;have hnb16:=A3.out;have hnc16:=A4.out;have hcz17__:=c6_ A1;have hfz17__:=f_ A1;have hcz18__:=c6_ Ab;have hfz18__:=f_ Ab));go_ret;exact ⟨er,tb HB⟩
     ·rw [if_neg c7] at H;have c7b0:(A9 == a1_4)=false:=beq_eq_false_iff_ne.mpr c7;have c7b1:(A9 != a1_4)=true:=bne_iff_ne.mpr c7;obtain rfl:=os H
      go_enter Try.func92,Try.ntmps92
      go_wp2_with (first|((with_reducible refine gate_dst (N:=2) rfl ?_);refine bx (N:=2) (cs:=#[.int .i64 A5,.int .i64 A6,.int .i64 A7,.int .i64 A8,.int .i64 A9,.int .i64 Aa]) (t:=99) ?_;intro A0 hg w19 hbox hb;have A1:=Aside0.mk (hbox);have Ac:=Aside0.mk ((by rw [hg];exact (below_size (tb HB)):w.heap.size≤A0));have Ad:=Aside0.mk ((by rw [hg];exact (below_size (tb HB)):w.heap.size≤A0));replace HB:=Aside0.mk (below_step (tb HB) hb);clear hb hbox hg)|((with_reducible refine gate_dst (N:=3) rfl ?_);refine bx (N:=3) (cs:=#[.int .i64 a1_0,.int .i64 a1_1,.int .i64 a1_2,.int .i64 a1_3,.int .i64 a1_4,.int .i64 a1_5]) (t:=99) ?_;intro A2 hg w20 hbox hb;have Ab:=Aside0.mk (hbox);have Ae:=Aside0.mk ((by rw [hg];exact (below_size (tb HB)):w.heap.size≤A2));have Af:=Aside0.mk ((by rw [hg];exact (below_size (tb HB)):w.heap.size≤A2));replace HB:=Aside0.mk (below_step (tb HB) hb);have A3:=Aside0.mk ((by rw [hg];exact Nat.ne_of_lt (blk_lt (g:=A0) (o := .cells #[.int .i64 A5,.int .i64 A6,.int .i64 A7,.int .i64 A8,.int .i64 A9,.int .i64 Aa] 99 (0,0)) (dr A1)):A0≠A2));have A4:=Aside0.mk ((by rw [hg];exact Nat.ne_of_gt (blk_lt (g:=A0) (o := .cells #[.int .i64 A5,.int .i64 A6,.int .i64 A7,.int .i64 A8,.int .i64 A9,.int .i64 Aa] 99 (0,0)) (dr A1)):A2≠A0));replace A1:=Aside0.mk (blk_below (g:=A0) (o := .cells #[.int .i64 A5,.int .i64 A6,.int .i64 A7,.int .i64 A8,.int .i64 A9,.int .i64 Aa] 99 (0,0)) (dr A1) hb);clear hb hbox hg;have hnb21:=A3.out;have hnc21:=A4.out;have hcz22__:=c6_ A1;have hfz22__:=f_ A1;have hcz23__:=c6_ Ab;have hfz23__:=f_ Ab));go_ret;exact ⟨er,tb HB⟩
    ·rw [if_neg c6] at H;have c6b0:(A8 == a1_3)=false:=beq_eq_false_iff_ne.mpr c6;have c6b1:(A8 != a1_3)=true:=bne_iff_ne.mpr c6;obtain rfl:=os H
     go_enter Try.func92,Try.ntmps92
     go_wp2_with (first|((with_reducible refine gate_dst (N:=2) rfl ?_);refine bx (N:=2) (cs:=#[.int .i64 A5,.int .i64 A6,.int .i64 A7,.int .i64 A8,.int .i64 A9,.int .i64 Aa]) (t:=99) ?_;intro A0 hg w24 hbox hb;have A1:=Aside0.mk (hbox);have Ac:=Aside0.mk ((by rw [hg];exact (below_size (tb HB)):w.heap.size≤A0));have Ad:=Aside0.mk ((by rw [hg];exact (below_size (tb HB)):w.heap.size≤A0));replace HB:=Aside0.mk (below_step (tb HB) hb);clear hb hbox hg)|((with_reducible refine gate_dst (N:=3) rfl ?_);refine bx (N:=3) (cs:=#[.int .i64 a1_0,.int .i64 a1_1,.int .i64 a1_2,.int .i64 a1_3,.int .i64 a1_4,.int .i64 a1_5]) (t:=99) ?_;intro A2 hg w25 hbox hb;have Ab:=Aside0.mk (hbox);have Ae:=Aside0.mk ((by rw [hg];exact (below_size (tb HB)):w.heap.size≤A2));have Af:=Aside0.mk ((by rw [hg];exact (below_size (tb HB)):w.heap.size≤A2));replace HB:=Aside0.mk (below_step (tb HB) hb);have A3:=Aside0.mk ((by rw [hg];exact Nat.ne_of_lt (blk_lt (g:=A0) (o := .cells #[.int .i64 A5,.int .i64 A6,.int .i64 A7,.int .i64 A8,.int .i64 A9,.int .i64 Aa] 99 (0,0)) (dr A1)):A0≠A2));have A4:=Aside0.mk ((by rw [hg];exact Nat.ne_of_gt (blk_lt (g:=A0) (o := .cells #[.int .i64 A5,.int .i64 A6,.int .i64 A7,.int .i64 A8,.int .i64 A9,.int .i64 Aa] 99 (0,0)) (dr A1)):A2≠A0));replace A1:=Aside0.mk (blk_below (g:=A0) (o := .cells #[.int .i64 A5,.int .i64 A6,.int .i64 A7,.int .i64 A8,.int .i64 A9,.int .i64 Aa] 99 (0,0)) (dr A1) hb);clear hb hbox hg;have hnb26:=A3.out;have hnc26:=A4.out;have hcz27__:=c6_ A1;have hfz27__:=f_ A1;have hcz28__:=c6_ Ab;have hfz28__:=f_ Ab));go_ret;exact ⟨er,tb HB⟩
   ·rw [if_neg c5] at H;have c5b0:(A7 == a1_2)=false:=beq_eq_false_iff_ne.mpr c5;have c5b1:(A7 != a1_2)=true:=bne_iff_ne.mpr c5;obtain rfl:=os H
    go_enter Try.func92,Try.ntmps92
    go_wp2_with (first|((with_reducible refine gate_dst (N:=2) rfl ?_);refine bx (N:=2) (cs:=#[.int .i64 A5,.int .i64 A6,.int .i64 A7,.int .i64 A8,.int .i64 A9,.int .i64 Aa]) (t:=99) ?_;intro A0 hg w29 hbox hb;have A1:=Aside0.mk (hbox);have Ac:=Aside0.mk ((by rw [hg];exact (below_size (tb HB)):w.heap.size≤A0));have Ad:=Aside0.mk ((by rw [hg];exact (below_size (tb HB)):w.heap.size≤A0));replace HB:=Aside0.mk (below_step (tb HB) hb);clear hb hbox hg)|((with_reducible refine gate_dst (N:=3) rfl ?_);refine bx (N:=3) (cs:=#[.int .i64 a1_0,.int .i64 a1_1,.int .i64 a1_2,.int .i64 a1_3,.int .i64 a1_4,.int .i64 a1_5]) (t:=99) ?_;intro A2 hg w30 hbox hb;have Ab:=Aside0.mk (hbox);have Ae:=Aside0.mk ((by rw [hg];exact (below_size (tb HB)):w.heap.size≤A2));have Af:=Aside0.mk ((by rw [hg];exact (below_size (tb HB)):w.heap.size≤A2));replace HB:=Aside0.mk (below_step (tb HB) hb);have A3:=Aside0.mk ((by rw [hg];exact Nat.ne_of_lt (blk_lt (g:=A0) (o := .cells #[.int .i64 A5,.int .i64 A6,.int .i64 A7,.int .i64 A8,.int .i64 A9,.int .i64 Aa] 99 (0,0)) (dr A1)):A0≠A2));have A4:=Aside0.mk ((by rw [hg];exact Nat.ne_of_gt (blk_lt (g:=A0) (o := .cells #[.int .i64 A5,.int .i64 A6,.int .i64 A7,.int .i64 A8,.int .i64 A9,.int .i64 Aa] 99 (0,0)) (dr A1)):A2≠A0));replace A1:=Aside0.mk (blk_below (g:=A0) (o := .cells #[.int .i64 A5,.int .i64 A6,.int .i64 A7,.int .i64 A8,.int .i64 A9,.int .i64 Aa] 99 (0,0)) (dr A1) hb);clear hb hbox hg;have hnb31:=A3.out;have hnc31:=A4.out;have hcz32__:=c6_ A1;have hfz32__:=f_ A1;have hcz33__:=c6_ Ab;have hfz33__:=f_ Ab));go_ret;exact ⟨er,tb HB⟩
  ·rw [if_neg c4] at H;have c4b0:(A6 == a1_1)=false:=beq_eq_false_iff_ne.mpr c4;have c4b1:(A6 != a1_1)=true:=bne_iff_ne.mpr c4;obtain rfl:=os H
   go_enter Try.func92,Try.ntmps92
   go_wp2_with (first|((with_reducible refine gate_dst (N:=2) rfl ?_);refine bx (N:=2) (cs:=#[.int .i64 A5,.int .i64 A6,.int .i64 A7,.int .i64 A8,.int .i64 A9,.int .i64 Aa]) (t:=99) ?_;intro A0 hg w34 hbox hb;have A1:=Aside0.mk (hbox);have Ac:=Aside0.mk ((by rw [hg];exact (below_size (tb HB)):w.heap.size≤A0));have Ad:=Aside0.mk ((by rw [hg];exact (below_size (tb HB)):w.heap.size≤A0));replace HB:=Aside0.mk (below_step (tb HB) hb);clear hb hbox hg)|((with_reducible refine gate_dst (N:=3) rfl ?_);refine bx (N:=3) (cs:=#[.int .i64 a1_0,.int .i64 a1_1,.int .i64 a1_2,.int .i64 a1_3,.int .i64 a1_4,.int .i64 a1_5]) (t:=99) ?_;intro A2 hg w35 hbox hb;have Ab:=Aside0.mk (hbox);have Ae:=Aside0.mk ((by rw [hg];exact (below_size (tb HB)):w.heap.size≤A2));have Af:=Aside0.mk ((by rw [hg];exact (below_size (tb HB)):w.heap.size≤A2));replace HB:=Aside0.mk (below_step (tb HB) hb);have A3:=Aside0.mk ((by rw [hg];exact Nat.ne_of_lt (blk_lt (g:=A0) (o := .cells #[.int .i64 A5,.int .i64 A6,.int .i64 A7,.int .i64 A8,.int .i64 A9,.int .i64 Aa] 99 (0,0)) (dr A1)):A0≠A2));have A4:=Aside0.mk ((by rw [hg];exact Nat.ne_of_gt (blk_lt (g:=A0) (o := .cells #[.int .i64 A5,.int .i64 A6,.int .i64 A7,.int .i64 A8,.int .i64 A9,.int .i64 Aa] 99 (0,0)) (dr A1)):A2≠A0));replace A1:=Aside0.mk (blk_below (g:=A0) (o := .cells #[.int .i64 A5,.int .i64 A6,.int .i64 A7,.int .i64 A8,.int .i64 A9,.int .i64 Aa] 99 (0,0)) (dr A1) hb);clear hb hbox hg;have hnb36:=A3.out;have hnc36:=A4.out;have hcz37__:=c6_ A1;have hfz37__:=f_ A1;have hcz38__:=c6_ Ab;have hfz38__:=f_ Ab));go_ret;exact ⟨er,tb HB⟩
 ·rw [if_neg c3] at H;have c3b0:(A5 == a1_0)=false:=beq_eq_false_iff_ne.mpr c3;have c3b1:(A5 != a1_0)=true:=bne_iff_ne.mpr c3;obtain rfl:=os H
  go_enter Try.func92,Try.ntmps92
  go_wp2_with (first|((with_reducible refine gate_dst (N:=2) rfl ?_);refine bx (N:=2) (cs:=#[.int .i64 A5,.int .i64 A6,.int .i64 A7,.int .i64 A8,.int .i64 A9,.int .i64 Aa]) (t:=99) ?_;intro A0 hg w39 hbox hb;have A1:=Aside0.mk (hbox);have Ac:=Aside0.mk ((by rw [hg];exact (below_size (tb HB)):w.heap.size≤A0));have Ad:=Aside0.mk ((by rw [hg];exact (below_size (tb HB)):w.heap.size≤A0));replace HB:=Aside0.mk (below_step (tb HB) hb);clear hb hbox hg)|((with_reducible refine gate_dst (N:=3) rfl ?_);refine bx (N:=3) (cs:=#[.int .i64 a1_0,.int .i64 a1_1,.int .i64 a1_2,.int .i64 a1_3,.int .i64 a1_4,.int .i64 a1_5]) (t:=99) ?_;intro A2 hg w40 hbox hb;have Ab:=Aside0.mk (hbox);have Ae:=Aside0.mk ((by rw [hg];exact (below_size (tb HB)):w.heap.size≤A2));have Af:=Aside0.mk ((by rw [hg];exact (below_size (tb HB)):w.heap.size≤A2));replace HB:=Aside0.mk (below_step (tb HB) hb);have A3:=Aside0.mk ((by rw [hg];exact Nat.ne_of_lt (blk_lt (g:=A0) (o := .cells #[.int .i64 A5,.int .i64 A6,.int .i64 A7,.int .i64 A8,.int .i64 A9,.int .i64 Aa] 99 (0,0)) (dr A1)):A0≠A2));have A4:=Aside0.mk ((by rw [hg];exact Nat.ne_of_gt (blk_lt (g:=A0) (o := .cells #[.int .i64 A5,.int .i64 A6,.int .i64 A7,.int .i64 A8,.int .i64 A9,.int .i64 Aa] 99 (0,0)) (dr A1)):A2≠A0));replace A1:=Aside0.mk (blk_below (g:=A0) (o := .cells #[.int .i64 A5,.int .i64 A6,.int .i64 A7,.int .i64 A8,.int .i64 A9,.int .i64 Aa] 99 (0,0)) (dr A1) hb);clear hb hbox hg;have hnb41:=A3.out;have hnc41:=A4.out;have hcz42__:=c6_ A1;have hfz42__:=f_ A1;have hcz43__:=c6_ Ab;have hfz43__:=f_ Ab));go_ret;exact ⟨er,tb HB⟩
def laws_eqNodeS.l0:Nat→List (S99)→List (S99)→Int→Option (Bool)
 | 0,_,_,_=>none
 | k + 1,x0,x1,x5=>if x5 < (x0.length:Int) then (if 0≤x5 then (if x5 < (x1.length:Int) then ((laws_eqNode.f ((rd_T99 x0 x5).f0) ((rd_T99 x0 x5).f1) ((rd_T99 x0 x5).f2) ((rd_T99 x0 x5).f3) ((rd_T99 x0 x5).f4) ((rd_T99 x0 x5).f5) ((rd_T99 x1 x5).f0) ((rd_T99 x1 x5).f1) ((rd_T99 x1 x5).f2) ((rd_T99 x1 x5).f3) ((rd_T99 x1 x5).f4) ((rd_T99 x1 x5).f5)).bind fun A3=>(if A3=true then (laws_eqNodeS.l0 k x0 x1 (wrap64 (x5 + 1))) else (some false))) else (none)) else (none)) else (some true)
def laws_eqNodeS.f (k:Nat) (l0:List (S99)) (l1:List (S99)):Option (Bool):=if (l0.length:Int)=(l1.length:Int) then (laws_eqNodeS.l0 k l0 l1 0) else (some false)
def laws_eqNodeS.T6:Bool × List (List Nat × List Nat):=(true,[([],[]),([],[]),([0,1],[0,1]),([2],[2]),([],[]),([],[]),([4,5],[4,5]),([6],[6]),([3,7],[3,7]),([8],[8])])
def laws_eqNodeS.B6:List Nat:=[0,0,3,7,0,0,48,112,255,511]
theorem laws_eqNodeS.tab6:rtab .any (opsOf Try.f40 6)=laws_eqNodeS.T6:=by kernel_rfl
theorem laws_eqNodeS.bits6:waitsOk laws_eqNodeS.T6.2 laws_eqNodeS.B6=true:=by kernel_rfl
set_option maxHeartbeats 8000000 in
set_option maxRecDepth 100000 in
theorem laws_eqNodeS.calls (k:Nat) (A0:Option Addr) (c0:Nat) (l0:List (S99)) (A1:Option Addr) (c1:Nat) (l1:List (S99)) (r:Bool) (w:World) (hr0:Kd.C k99 w A0 l0.length l0) (hc0:l0.length≤c0) (hr1:Kd.C k99 w A1 l1.length l1) (hc1:l1.length≤c1) (h:laws_eqNodeS.f k l0 l1=some r) :
  Calls Try.prog 40 #[.slice A0 l0.length c0,.slice A1 l1.length c1] w fun e w'=>e = .returned (.bool r)∧Below w.heap.size w w':=by
 have hu99:=Try.underlying99;have HR0:=Aside0.mk hr0;have HC0:=Aside0.mk hc0;clear hr0 hc0;have HR1:=Aside0.mk hr1;have HC1:=Aside0.mk hc1;clear hr1 hc1;have HB:=Aside0.mk (Below.refl w.heap.size w);have H:(if (l0.length:Int)=(l1.length:Int) then (laws_eqNodeS.l0 k l0 l1 0) else (some false))=some r:=h;clear h
 by_cases c3:(l0.length:Int)=(l1.length:Int)
 ·rw [if_pos c3] at H;have c3b0:((l0.length:Int) == (l1.length:Int))=true:=beq_iff_eq.mpr c3;have c3b1:((l0.length:Int) != (l1.length:Int))=false:=bne_eq_false_iff_eq.mpr c3
  have c3b2:(l0.length == l1.length)=true:=by first|simpa using c3|(simp at c3 ⊢;omega)
  clear c3;have H':=Aside0.mk H;clear H
  go_enter Try.func40,Try.ntmps40
  go_wp2
  go_loopg [5] k (fun kq v5 w'=>∃ (A2:Int),v5 = .int .i64 A2∧Aside0 (laws_eqNodeS.l0 kq l0 l1 A2=some r)∧Aside0 (kq≤k)∧Aside0 (Below w.heap.size w w'))
  case atStart=>exact ⟨(0),(by first|rfl|(simp;done)|(simp [*];done)),H',⟨Nat.le_refl _⟩,⟨by exact tb HB⟩⟩
  case round =>
   clear H';(try clear c1);(try clear p2);(try clear c3);(try clear c3b0);(try clear c3b1);(try clear c3b2);obtain ⟨A2,rfl,HA,HK1,HB⟩:=hrel
   cases gk with
   | zero=>exact absurd HA.out (by simp [laws_eqNodeS.l0])
   | succ k1 =>
    have H:=HA.out;clear HA;simp only [laws_eqNodeS.l0] at H
    by_cases c4:A2 < (l0.length:Int)
    ·rw [if_pos c4] at H;have c4b0:decide (A2 < (l0.length:Int))=true:=decide_eq_true c4;clear c4
     by_cases c5:0≤A2
     ·rw [if_pos c5] at H;have c5b0:decide (0≤A2)=true:=decide_eq_true c5;clear c5
      by_cases c6:A2 < (l1.length:Int)
      ·rw [if_pos c6] at H;have c6b0:decide (A2 < (l1.length:Int))=true:=decide_eq_true c6;clear c6;replace H:=ob H;obtain ⟨A3,A70,H⟩:=H;replace H:(if A3=true then (laws_eqNodeS.l0 k1 l0 l1 (wrap64 (A2 + 1))) else (some false))=some r:=H;have A7:=Aside0.mk A70;clear A70
       by_cases c8:A3=true
       ·subst c8
        have H1:(laws_eqNodeS.l0 k1 l0 l1 (wrap64 (A2 + 1)))=some r:=by rw [if_pos rfl] at H;exact H
        clear H;have H:=H1;clear H1;have H':=Aside0.mk H;clear H
        try go_wp2
        have n0_:=Aside0.mk (below_drew1 HB.out);clear HB;have HB:=n0_;clear n0_;have p101:0≤(A2:Int):=od;have q101:A2 < (l0.length:Int):=od;obtain ⟨ad101,e101,hx101_0,hx101_1,hx101_2,hx101_3,hx101_4,hx101_5⟩:=at_T99 HR0.out A2 p101 q101;have hw101_5:=hx101_5;have hw101_4:=hx101_4;have hw101_3:=hx101_3;have hw101_2:=hx101_2;have hw101_1:=hx101_1;have hw101_0:=hx101_0;cases e101;replace hx101_0:=ct HB hx101_0;replace hx101_1:=ct HB hx101_1;replace hx101_2:=ct HB hx101_2;replace hx101_3:=ct HB hx101_3;replace hx101_4:=ct HB hx101_4;replace hx101_5:=ct HB hx101_5;replace p101:=eq_true p101;replace q101:=eq_true q101;have p102:0≤(A2:Int):=od;have q102:A2 < (l1.length:Int):=od;obtain ⟨ad102,e102,hx102_0,hx102_1,hx102_2,hx102_3,hx102_4,hx102_5⟩:=at_T99 HR1.out A2 p102 q102;have hw102_5:=hx102_5;have hw102_4:=hx102_4;have hw102_3:=hx102_3;have hw102_2:=hx102_2;have hw102_1:=hx102_1;have hw102_0:=hx102_0;cases e102;replace hx102_0:=ct HB hx102_0;replace hx102_1:=ct HB hx102_1;replace hx102_2:=ct HB hx102_2;replace hx102_3:=ct HB hx102_3;replace hx102_4:=ct HB hx102_4;replace hx102_5:=ct HB hx102_5;replace p102:=eq_true p102;replace q102:=eq_true q102;refine start_ (n:=10) (S:=fun w'=>w'.cell? (ad101.add ((A2).toNat * 6))=some (.int .i64 ((rd_T99 l0 A2).f0))∧w'.cell? ⟨(ad101.add ((A2).toNat * 6)).block,(ad101.add ((A2).toNat * 6)).off + 1,none⟩=some (.int .i64 ((rd_T99 l0 A2).f1))∧w'.cell? ⟨(ad101.add ((A2).toNat * 6)).block,(ad101.add ((A2).toNat * 6)).off + 2,none⟩=some (.int .i64 ((rd_T99 l0 A2).f2))∧w'.cell? ⟨(ad101.add ((A2).toNat * 6)).block,(ad101.add ((A2).toNat * 6)).off + 3,none⟩=some (.int .i64 ((rd_T99 l0 A2).f3))∧w'.cell? ⟨(ad101.add ((A2).toNat * 6)).block,(ad101.add ((A2).toNat * 6)).off + 4,none⟩=some (.int .i64 ((rd_T99 l0 A2).f4))∧w'.cell? ⟨(ad101.add ((A2).toNat * 6)).block,(ad101.add ((A2).toNat * 6)).off + 5,none⟩=some (.int .i64 ((rd_T99 l0 A2).f5))∧w'.cell? (ad102.add ((A2).toNat * 6))=some (.int .i64 ((rd_T99 l1 A2).f0))∧w'.cell? ⟨(ad102.add ((A2).toNat * 6)).block,(ad102.add ((A2).toNat * 6)).off + 1,none⟩=some (.int .i64 ((rd_T99 l1 A2).f1))∧w'.cell? ⟨(ad102.add ((A2).toNat * 6)).block,(ad102.add ((A2).toNat * 6)).off + 2,none⟩=some (.int .i64 ((rd_T99 l1 A2).f2))∧w'.cell? ⟨(ad102.add ((A2).toNat * 6)).block,(ad102.add ((A2).toNat * 6)).off + 3,none⟩=some (.int .i64 ((rd_T99 l1 A2).f3))∧w'.cell? ⟨(ad102.add ((A2).toNat * 6)).block,(ad102.add ((A2).toNat * 6)).off + 4,none⟩=some (.int .i64 ((rd_T99 l1 A2).f4))∧w'.cell? ⟨(ad102.add ((A2).toNat * 6)).block,(ad102.add ((A2).toNat * 6)).off + 5,none⟩=some (.int .i64 ((rd_T99 l1 A2).f5))) (ds:=[]) (tf 0 10) (by kernel_rfl) rfl rfl ⟨(ct HB hw101_0 :),(ct HB hw101_1 :),(ct HB hw101_2 :),(ct HB hw101_3 :),(ct HB hw101_4 :),(ct HB hw101_5 :),(ct HB hw102_0 :),(ct HB hw102_1 :),(ct HB hw102_2 :),(ct HB hw102_3 :),(ct HB hw102_4 :),(ct HB hw102_5 :)⟩ (fun hHeld=>?_);refine with_tabW laws_eqNodeS.tab6 laws_eqNodeS.bits6 (fun HT_ HW_=>?_);generalize wr.drew=w9 at HB hx101_0 hx101_1 hx101_2 hx101_3 hx101_4 hx101_5 hx102_0 hx102_1 hx102_2 hx102_3 hx102_4 hx102_5 hHeld ⊢;refine pure_ (i:=0) (N:=some 17) (v:=?_) (a':=?_) (tf 1 9) rfl rfl (any_of HT_.out (by kernel_rfl)) (fun _ _ _ h=>h) (Or.inl ⟨by rfl,?_⟩) ?_ ?_;rotate_left
        ·intro w';go_simp;with_reducible rfl
        rotate_left
        ·simp only [Act.put,s1,s2,s3,i64_w,i32_w];rfl
        refine pure_ (i:=1) (N:=some 18) (v:=?_) (a':=?_) (tf 2 8) rfl rfl (any_of HT_.out (by kernel_rfl)) (fun _ _ _ h=>h) (Or.inl ⟨by rfl,?_⟩) ?_ ?_;rotate_left
        ·intro w';go_simp;with_reducible rfl
        rotate_left
        ·simp only [Act.put,s1,s2,s3,i64_w,i32_w];rfl
        refine pure_ (i:=2) (N:=some 19) (v:=?_) (a':=?_) (tf 3 7) rfl rfl (any_of HT_.out (by kernel_rfl)) (fun _ _ _ h=>h) (Or.inl ⟨by rfl,?_⟩) ?_ ?_;rotate_left
        ·intro w';go_simp;with_reducible rfl
        rotate_left
        ·simp only [Act.put,s1,s2,s3,i64_w,i32_w];rfl
        refine pure_ (i:=4) (N:=some 21) (v:=?_) (a':=?_) #[true,true,true,false,true,false,false,false,false,false] rfl rfl (any_of HT_.out (by kernel_rfl)) (fun _ _ _ h=>h) (Or.inl ⟨by rfl,?_⟩) ?_ ?_;rotate_left
        ·intro w';go_simp;with_reducible rfl
        rotate_left
        ·simp only [Act.put,s1,s2,s3,i64_w,i32_w];rfl
        refine pure_ (i:=5) (N:=some 22) (v:=?_) (a':=?_) #[true,true,true,false,true,true,false,false,false,false] rfl rfl (any_of HT_.out (by kernel_rfl)) (fun _ _ _ h=>h) (Or.inl ⟨by rfl,?_⟩) ?_ ?_;rotate_left
        ·intro w';go_simp;with_reducible rfl
        rotate_left
        ·simp only [Act.put,s1,s2,s3,i64_w,i32_w];rfl
        refine pure_ (i:=6) (N:=some 23) (v:=?_) (a':=?_) #[true,true,true,false,true,true,true,false,false,false] rfl rfl (any_of HT_.out (by kernel_rfl)) (fun _ _ _ h=>h) (Or.inl ⟨by rfl,?_⟩) ?_ ?_;rotate_left
        ·intro w';go_simp;with_reducible rfl
        rotate_left
        ·simp only [Act.put,s1,s2,s3,i64_w,i32_w];rfl
        refine take_ (i:=3) (N:=some 20) (v:=?_) (a':=?_) (tf 7 3) rfl rfl (take_ofW HT_.out HW_.out (by kernel_rfl)) (fun _ _ _ h=>h) (Or.inl ⟨by rfl,?_⟩) hHeld ?_ ?_;rotate_left
        ·rintro w' ⟨s0,s1,s2,s3,s4,s5,s6,s7,s8,s9,s10,s11⟩;go_simp;with_reducible rfl
        rotate_left
        ·simp only [Act.put,s1,s2,s3,i64_w,i32_w];rfl
        refine take_ (i:=7) (N:=some 24) (v:=?_) (a':=?_) (tf 8 2) rfl rfl (take_ofW HT_.out HW_.out (by kernel_rfl)) (fun _ _ _ h=>h) (Or.inl ⟨by rfl,?_⟩) hHeld ?_ ?_;rotate_left
        ·rintro w' ⟨s0,s1,s2,s3,s4,s5,s6,s7,s8,s9,s10,s11⟩;go_simp;with_reducible rfl
        rotate_left
        ·simp only [Act.put,s1,s2,s3,i64_w,i32_w];rfl
        refine one_ (i:=8) (N:=some 25) (tf 9 1) rfl rfl (one_of HT_.out (by kernel_rfl)) (by decide) (fun K hK=>?_);refine goes_ Try.func92 (by kernel_rfl) rfl #[.agg #[.int .i64 ((rd_T99 l0 A2).f0),.int .i64 ((rd_T99 l0 A2).f1),.int .i64 ((rd_T99 l0 A2).f2),.int .i64 ((rd_T99 l0 A2).f3),.int .i64 ((rd_T99 l0 A2).f4),.int .i64 ((rd_T99 l0 A2).f5)],.agg #[.int .i64 ((rd_T99 l1 A2).f0),.int .i64 ((rd_T99 l1 A2).f1),.int .i64 ((rd_T99 l1 A2).f2),.int .i64 ((rd_T99 l1 A2).f3),.int .i64 ((rd_T99 l1 A2).f4),.int .i64 ((rd_T99 l1 A2).f5)]] (by rfl) rfl rfl ml ?_
        with_reducible refine (laws_eqNode.calls ((rd_T99 l0 A2).f0) ((rd_T99 l0 A2).f1) ((rd_T99 l0 A2).f2) ((rd_T99 l0 A2).f3) ((rd_T99 l0 A2).f4) ((rd_T99 l0 A2).f5) ((rd_T99 l1 A2).f0) ((rd_T99 l1 A2).f1) ((rd_T99 l1 A2).f2) ((rd_T99 l1 A2).f3) ((rd_T99 l1 A2).f4) ((rd_T99 l1 A2).f5) true _ A7.out).mono ?_
        rintro e w10 ⟨rfl,hb⟩;refine ⟨_,rfl,?_⟩;have n0_:=Aside0.mk (below_step (tb HB) hb);clear HB;have HB:=n0_;clear n0_;(try clear hb);(try clear hb2);(try clear hk);(try clear hi);refine hK.out _ _ ⟨(ct HB hw101_0 :),(ct HB hw101_1 :),(ct HB hw101_2 :),(ct HB hw101_3 :),(ct HB hw101_4 :),(ct HB hw101_5 :),(ct HB hw102_0 :),(ct HB hw102_1 :),(ct HB hw102_2 :),(ct HB hw102_3 :),(ct HB hw102_4 :),(ct HB hw102_5 :)⟩ (fun hHeld=>?_);clear hK K;refine norm_ (a':=?_) ?_ ?_;rotate_left
        ·show Act.put _ (some 25) _=_
         simp only [Act.put,s1,s2,s3,i64_w,i32_w];rfl
        refine pure_ (i:=9) (N:=some 26) (v:=?_) (a':=?_) (tf 10 0) rfl rfl (any_of HT_.out (by kernel_rfl)) (fun _ _ _ h=>h) (Or.inl ⟨by rfl,?_⟩) ?_ ?_;rotate_left
        ·intro w';go_simp;with_reducible rfl
        rotate_left
        ·simp only [Act.put,s1,s2,s3,i64_w,i32_w];rfl
        refine done_ (done_of HT_.out (by kernel_rfl)) ?_
        try go_wp2
        go_roundg k1
        case measure=>have:=HK1.out;omega
        case rel=>exact ⟨(wrap64 (A2 + 1)),(by first|rfl|(simp;done)|(simp [*];done)),H',⟨by have:=HK1.out;omega⟩,⟨by exact tb HB⟩⟩
       ·replace c8:=Bool.eq_false_iff.mpr c8;subst c8
        have H1:(some false)=some r:=by rw [if_neg (show ¬ (false=true) by decide)] at H;exact H
        clear H;have H:=H1;clear H1;obtain rfl:=os H
        try go_wp2
        have n0_:=Aside0.mk (below_drew1 HB.out);clear HB;have HB:=n0_;clear n0_;have p101:0≤(A2:Int):=od;have q101:A2 < (l0.length:Int):=od;obtain ⟨ad101,e101,hx101_0,hx101_1,hx101_2,hx101_3,hx101_4,hx101_5⟩:=at_T99 HR0.out A2 p101 q101;have hw101_5:=hx101_5;have hw101_4:=hx101_4;have hw101_3:=hx101_3;have hw101_2:=hx101_2;have hw101_1:=hx101_1;have hw101_0:=hx101_0;cases e101;replace hx101_0:=ct HB hx101_0;replace hx101_1:=ct HB hx101_1;replace hx101_2:=ct HB hx101_2;replace hx101_3:=ct HB hx101_3;replace hx101_4:=ct HB hx101_4;replace hx101_5:=ct HB hx101_5;replace p101:=eq_true p101;replace q101:=eq_true q101;have p102:0≤(A2:Int):=od;have q102:A2 < (l1.length:Int):=od;obtain ⟨ad102,e102,hx102_0,hx102_1,hx102_2,hx102_3,hx102_4,hx102_5⟩:=at_T99 HR1.out A2 p102 q102;have hw102_5:=hx102_5;have hw102_4:=hx102_4;have hw102_3:=hx102_3;have hw102_2:=hx102_2;have hw102_1:=hx102_1;have hw102_0:=hx102_0;cases e102;replace hx102_0:=ct HB hx102_0;replace hx102_1:=ct HB hx102_1;replace hx102_2:=ct HB hx102_2;replace hx102_3:=ct HB hx102_3;replace hx102_4:=ct HB hx102_4;replace hx102_5:=ct HB hx102_5;replace p102:=eq_true p102;replace q102:=eq_true q102;refine start_ (n:=10) (S:=fun w'=>w'.cell? (ad101.add ((A2).toNat * 6))=some (.int .i64 ((rd_T99 l0 A2).f0))∧w'.cell? ⟨(ad101.add ((A2).toNat * 6)).block,(ad101.add ((A2).toNat * 6)).off + 1,none⟩=some (.int .i64 ((rd_T99 l0 A2).f1))∧w'.cell? ⟨(ad101.add ((A2).toNat * 6)).block,(ad101.add ((A2).toNat * 6)).off + 2,none⟩=some (.int .i64 ((rd_T99 l0 A2).f2))∧w'.cell? ⟨(ad101.add ((A2).toNat * 6)).block,(ad101.add ((A2).toNat * 6)).off + 3,none⟩=some (.int .i64 ((rd_T99 l0 A2).f3))∧w'.cell? ⟨(ad101.add ((A2).toNat * 6)).block,(ad101.add ((A2).toNat * 6)).off + 4,none⟩=some (.int .i64 ((rd_T99 l0 A2).f4))∧w'.cell? ⟨(ad101.add ((A2).toNat * 6)).block,(ad101.add ((A2).toNat * 6)).off + 5,none⟩=some (.int .i64 ((rd_T99 l0 A2).f5))∧w'.cell? (ad102.add ((A2).toNat * 6))=some (.int .i64 ((rd_T99 l1 A2).f0))∧w'.cell? ⟨(ad102.add ((A2).toNat * 6)).block,(ad102.add ((A2).toNat * 6)).off + 1,none⟩=some (.int .i64 ((rd_T99 l1 A2).f1))∧w'.cell? ⟨(ad102.add ((A2).toNat * 6)).block,(ad102.add ((A2).toNat * 6)).off + 2,none⟩=some (.int .i64 ((rd_T99 l1 A2).f2))∧w'.cell? ⟨(ad102.add ((A2).toNat * 6)).block,(ad102.add ((A2).toNat * 6)).off + 3,none⟩=some (.int .i64 ((rd_T99 l1 A2).f3))∧w'.cell? ⟨(ad102.add ((A2).toNat * 6)).block,(ad102.add ((A2).toNat * 6)).off + 4,none⟩=some (.int .i64 ((rd_T99 l1 A2).f4))∧w'.cell? ⟨(ad102.add ((A2).toNat * 6)).block,(ad102.add ((A2).toNat * 6)).off + 5,none⟩=some (.int .i64 ((rd_T99 l1 A2).f5))) (ds:=[]) (tf 0 10) (by kernel_rfl) rfl rfl ⟨(ct HB hw101_0 :),(ct HB hw101_1 :),(ct HB hw101_2 :),(ct HB hw101_3 :),(ct HB hw101_4 :),(ct HB hw101_5 :),(ct HB hw102_0 :),(ct HB hw102_1 :),(ct HB hw102_2 :),(ct HB hw102_3 :),(ct HB hw102_4 :),(ct HB hw102_5 :)⟩ (fun hHeld=>?_);refine with_tabW laws_eqNodeS.tab6 laws_eqNodeS.bits6 (fun HT_ HW_=>?_);generalize wr.drew=w11 at HB hx101_0 hx101_1 hx101_2 hx101_3 hx101_4 hx101_5 hx102_0 hx102_1 hx102_2 hx102_3 hx102_4 hx102_5 hHeld ⊢;refine pure_ (i:=0) (N:=some 17) (v:=?_) (a':=?_) (tf 1 9) rfl rfl (any_of HT_.out (by kernel_rfl)) (fun _ _ _ h=>h) (Or.inl ⟨by rfl,?_⟩) ?_ ?_;rotate_left
        ·intro w';go_simp;with_reducible rfl
        rotate_left
        ·simp only [Act.put,s1,s2,s3,i64_w,i32_w];rfl
        refine pure_ (i:=1) (N:=some 18) (v:=?_) (a':=?_) (tf 2 8) rfl rfl (any_of HT_.out (by kernel_rfl)) (fun _ _ _ h=>h) (Or.inl ⟨by rfl,?_⟩) ?_ ?_;rotate_left
        ·intro w';go_simp;with_reducible rfl
        rotate_left
        ·simp only [Act.put,s1,s2,s3,i64_w,i32_w];rfl
        refine pure_ (i:=2) (N:=some 19) (v:=?_) (a':=?_) (tf 3 7) rfl rfl (any_of HT_.out (by kernel_rfl)) (fun _ _ _ h=>h) (Or.inl ⟨by rfl,?_⟩) ?_ ?_;rotate_left
        ·intro w';go_simp;with_reducible rfl
        rotate_left
        ·simp only [Act.put,s1,s2,s3,i64_w,i32_w];rfl
        refine pure_ (i:=4) (N:=some 21) (v:=?_) (a':=?_) #[true,true,true,false,true,false,false,false,false,false] rfl rfl (any_of HT_.out (by kernel_rfl)) (fun _ _ _ h=>h) (Or.inl ⟨by rfl,?_⟩) ?_ ?_;rotate_left
        ·intro w';go_simp;with_reducible rfl
        rotate_left
        ·simp only [Act.put,s1,s2,s3,i64_w,i32_w];rfl
        refine pure_ (i:=5) (N:=some 22) (v:=?_) (a':=?_) #[true,true,true,false,true,true,false,false,false,false] rfl rfl (any_of HT_.out (by kernel_rfl)) (fun _ _ _ h=>h) (Or.inl ⟨by rfl,?_⟩) ?_ ?_;rotate_left
        ·intro w';go_simp;with_reducible rfl
        rotate_left
        ·simp only [Act.put,s1,s2,s3,i64_w,i32_w];rfl
        refine pure_ (i:=6) (N:=some 23) (v:=?_) (a':=?_) #[true,true,true,false,true,true,true,false,false,false] rfl rfl (any_of HT_.out (by kernel_rfl)) (fun _ _ _ h=>h) (Or.inl ⟨by rfl,?_⟩) ?_ ?_;rotate_left
        ·intro w';go_simp;with_reducible rfl
        rotate_left
        ·simp only [Act.put,s1,s2,s3,i64_w,i32_w];rfl
        refine take_ (i:=3) (N:=some 20) (v:=?_) (a':=?_) (tf 7 3) rfl rfl (take_ofW HT_.out HW_.out (by kernel_rfl)) (fun _ _ _ h=>h) (Or.inl ⟨by rfl,?_⟩) hHeld ?_ ?_;rotate_left
        ·rintro w' ⟨s0,s1,s2,s3,s4,s5,s6,s7,s8,s9,s10,s11⟩;go_simp;with_reducible rfl
        rotate_left
        ·simp only [Act.put,s1,s2,s3,i64_w,i32_w];rfl
        refine take_ (i:=7) (N:=some 24) (v:=?_) (a':=?_) (tf 8 2) rfl rfl (take_ofW HT_.out HW_.out (by kernel_rfl)) (fun _ _ _ h=>h) (Or.inl ⟨by rfl,?_⟩) hHeld ?_ ?_;rotate_left
        ·rintro w' ⟨s0,s1,s2,s3,s4,s5,s6,s7,s8,s9,s10,s11⟩;go_simp;with_reducible rfl
        rotate_left
        ·simp only [Act.put,s1,s2,s3,i64_w,i32_w];rfl
        refine one_ (i:=8) (N:=some 25) (tf 9 1) rfl rfl (one_of HT_.out (by kernel_rfl)) (by decide) (fun K hK=>?_);refine goes_ Try.func92 (by kernel_rfl) rfl #[.agg #[.int .i64 ((rd_T99 l0 A2).f0),.int .i64 ((rd_T99 l0 A2).f1),.int .i64 ((rd_T99 l0 A2).f2),.int .i64 ((rd_T99 l0 A2).f3),.int .i64 ((rd_T99 l0 A2).f4),.int .i64 ((rd_T99 l0 A2).f5)],.agg #[.int .i64 ((rd_T99 l1 A2).f0),.int .i64 ((rd_T99 l1 A2).f1),.int .i64 ((rd_T99 l1 A2).f2),.int .i64 ((rd_T99 l1 A2).f3),.int .i64 ((rd_T99 l1 A2).f4),.int .i64 ((rd_T99 l1 A2).f5)]] (by rfl) rfl rfl ml ?_
        with_reducible refine (laws_eqNode.calls ((rd_T99 l0 A2).f0) ((rd_T99 l0 A2).f1) ((rd_T99 l0 A2).f2) ((rd_T99 l0 A2).f3) ((rd_T99 l0 A2).f4) ((rd_T99 l0 A2).f5) ((rd_T99 l1 A2).f0) ((rd_T99 l1 A2).f1) ((rd_T99 l1 A2).f2) ((rd_T99 l1 A2).f3) ((rd_T99 l1 A2).f4) ((rd_T99 l1 A2).f5) false _ A7.out).mono ?_
        rintro e w12 ⟨rfl,hb⟩;refine ⟨_,rfl,?_⟩;have n0_:=Aside0.mk (below_step (tb HB) hb);clear HB;have HB:=n0_;clear n0_;(try clear hb);(try clear hb2);(try clear hk);(try clear hi);refine hK.out _ _ ⟨(ct HB hw101_0 :),(ct HB hw101_1 :),(ct HB hw101_2 :),(ct HB hw101_3 :),(ct HB hw101_4 :),(ct HB hw101_5 :),(ct HB hw102_0 :),(ct HB hw102_1 :),(ct HB hw102_2 :),(ct HB hw102_3 :),(ct HB hw102_4 :),(ct HB hw102_5 :)⟩ (fun hHeld=>?_);clear hK K;refine norm_ (a':=?_) ?_ ?_;rotate_left
        ·show Act.put _ (some 25) _=_
         simp only [Act.put,s1,s2,s3,i64_w,i32_w];rfl
        refine pure_ (i:=9) (N:=some 26) (v:=?_) (a':=?_) (tf 10 0) rfl rfl (any_of HT_.out (by kernel_rfl)) (fun _ _ _ h=>h) (Or.inl ⟨by rfl,?_⟩) ?_ ?_;rotate_left
        ·intro w';go_simp;with_reducible rfl
        rotate_left
        ·simp only [Act.put,s1,s2,s3,i64_w,i32_w];rfl
        refine done_ (done_of HT_.out (by kernel_rfl)) ?_
        try go_wp2
        go_ret;exact ⟨er,tb HB⟩
      ·rw [if_neg c6] at H;exact absurd H (by simp)
     ·rw [if_neg c5] at H;exact absurd H (by simp)
    ·rw [if_neg c4] at H;have c4b0:decide (A2 < (l0.length:Int))=false:=decide_eq_false c4;clear c4;obtain rfl:=os H;go_wp2;go_ret;exact ⟨er,tb HB⟩
 ·rw [if_neg c3] at H;have c3b0:((l0.length:Int) == (l1.length:Int))=false:=beq_eq_false_iff_ne.mpr c3;have c3b1:((l0.length:Int) != (l1.length:Int))=true:=bne_iff_ne.mpr c3
  have c3b2:(l0.length == l1.length)=false:=by first|simpa using c3|(simp at c3 ⊢;omega)
  obtain rfl:=os H
  go_enter Try.func40,Try.ntmps40
  go_wp2;go_ret;exact ⟨er,tb HB⟩
def laws_eqQuant.f (A2:Bool) (A6:Int) (A7:Int) (a1_0:Bool) (a1_1:Int) (a1_2:Int):Option (Bool):=if (A2 != a1_0)=true then (some false) else (if A6=a1_1 then (if A7=a1_2 then (some true) else (some false)) else (some false))
set_option maxHeartbeats 8000000 in
set_option maxRecDepth 100000 in
theorem laws_eqQuant.calls (A2:Bool) (A6:Int) (A7:Int) (a1_0:Bool) (a1_1:Int) (a1_2:Int) (r:Bool) (w:World) (h:laws_eqQuant.f A2 A6 A7 a1_0 a1_1 a1_2=some r) :
  Calls Try.prog 91 #[.agg #[.bool A2,.int .i64 A6,.int .i64 A7],.agg #[.bool a1_0,.int .i64 a1_1,.int .i64 a1_2]] w fun e w'=>e = .returned (.bool r)∧Below w.heap.size w w':=by
 have hu66:=Try.underlying66;have HB:=Aside0.mk (Below.refl w.heap.size w);have H:(if (A2 != a1_0)=true then (some false) else (if A6=a1_1 then (if A7=a1_2 then (some true) else (some false)) else (some false)))=some r:=h;clear h
 by_cases c3:(A2 != a1_0)=true
 ·rw [if_pos c3] at H;have c3b0:(A2 != a1_0)=true:=c3
  (try (have c3b1:decide (A2=a1_0)=false:=by simpa using c3))
  (try (have c3b2:(A2 == a1_0)=false:=by simpa using c3))
  (try (have c3b3:¬ (A2=a1_0):=by simpa using c3))
  clear c3;obtain rfl:=os H
  go_enter Try.func91,Try.ntmps91
  go_wp2_with (first|((with_reducible refine gate_dst (N:=2) rfl ?_);refine bx (N:=2) (cs:=#[.bool A2,.int .i64 A6,.int .i64 A7]) (t:=66) ?_;intro A0 hg w4 hbox hb;have A1:=Aside0.mk (hbox);have A9:=Aside0.mk ((by rw [hg];exact (below_size (tb HB)):w.heap.size≤A0));have Aa:=Aside0.mk ((by rw [hg];exact (below_size (tb HB)):w.heap.size≤A0));replace HB:=Aside0.mk (below_step (tb HB) hb);clear hb hbox hg)|((with_reducible refine gate_dst (N:=3) rfl ?_);refine bx (N:=3) (cs:=#[.bool a1_0,.int .i64 a1_1,.int .i64 a1_2]) (t:=66) ?_;intro A3 hg w5 hbox hb;have A8:=Aside0.mk (hbox);have Ab:=Aside0.mk ((by rw [hg];exact (below_size (tb HB)):w.heap.size≤A3));have Ac:=Aside0.mk ((by rw [hg];exact (below_size (tb HB)):w.heap.size≤A3));replace HB:=Aside0.mk (below_step (tb HB) hb);have A4:=Aside0.mk ((by rw [hg];exact Nat.ne_of_lt (blk_lt (g:=A0) (o := .cells #[.bool A2,.int .i64 A6,.int .i64 A7] 66 (0,0)) (dr A1)):A0≠A3));have A5:=Aside0.mk ((by rw [hg];exact Nat.ne_of_gt (blk_lt (g:=A0) (o := .cells #[.bool A2,.int .i64 A6,.int .i64 A7] 66 (0,0)) (dr A1)):A3≠A0));replace A1:=Aside0.mk (blk_below (g:=A0) (o := .cells #[.bool A2,.int .i64 A6,.int .i64 A7] 66 (0,0)) (dr A1) hb);clear hb hbox hg;have hnb6:=A4.out;have hnc6:=A5.out;have hcz7__:=c3_ A1;have hfz7__:=f_ A1;have hcz8__:=c3_ A8;have hfz8__:=f_ A8));go_ret;exact ⟨er,tb HB⟩
 ·rw [if_neg c3] at H
  have c3b0:(A2 != a1_0)=false:=by simpa using c3
  (try (have c3b1:decide (A2=a1_0)=true:=by simpa using c3))
  (try (have c3b2:(A2 == a1_0)=true:=by simpa using c3))
  clear c3
  by_cases c9:A6=a1_1
  ·rw [if_pos c9] at H;have c9b0:(A6 == a1_1)=true:=beq_iff_eq.mpr c9;have c9b1:(A6 != a1_1)=false:=bne_eq_false_iff_eq.mpr c9;clear c9
   by_cases c10:A7=a1_2
   ·rw [if_pos c10] at H;have c10b0:(A7 == a1_2)=true:=beq_iff_eq.mpr c10;have c10b1:(A7 != a1_2)=false:=bne_eq_false_iff_eq.mpr c10;clear c10;obtain rfl:=os H
    go_enter Try.func91,Try.ntmps91
    go_wp2_with (first|((with_reducible refine gate_dst (N:=2) rfl ?_);refine bx (N:=2) (cs:=#[.bool A2,.int .i64 A6,.int .i64 A7]) (t:=66) ?_;intro A0 hg w11 hbox hb;have A1:=Aside0.mk (hbox);have A9:=Aside0.mk ((by rw [hg];exact (below_size (tb HB)):w.heap.size≤A0));have Aa:=Aside0.mk ((by rw [hg];exact (below_size (tb HB)):w.heap.size≤A0));replace HB:=Aside0.mk (below_step (tb HB) hb);clear hb hbox hg)|((with_reducible refine gate_dst (N:=3) rfl ?_);refine bx (N:=3) (cs:=#[.bool a1_0,.int .i64 a1_1,.int .i64 a1_2]) (t:=66) ?_;intro A3 hg w12 hbox hb;have A8:=Aside0.mk (hbox);have Ab:=Aside0.mk ((by rw [hg];exact (below_size (tb HB)):w.heap.size≤A3));have Ac:=Aside0.mk ((by rw [hg];exact (below_size (tb HB)):w.heap.size≤A3));replace HB:=Aside0.mk (below_step (tb HB) hb);have A4:=Aside0.mk ((by rw [hg];exact Nat.ne_of_lt (blk_lt (g:=A0) (o := .cells #[.bool A2,.int .i64 A6,.int .i64 A7] 66 (0,0)) (dr A1)):A0≠A3));have A5:=Aside0.mk ((by rw [hg];exact Nat.ne_of_gt (blk_lt (g:=A0) (o := .cells #[.bool A2,.int .i64 A6,.int .i64 A7] 66 (0,0)) (dr A1)):A3≠A0));replace A1:=Aside0.mk (blk_below (g:=A0) (o := .cells #[.bool A2,.int .i64 A6,.int .i64 A7] 66 (0,0)) (dr A1) hb);clear hb hbox hg;have hnb13:=A4.out;have hnc13:=A5.out;have hcz14__:=c3_ A1;have hfz14__:=f_ A1;have hcz15__:=c3_ A8;have hfz15__:=f_ A8));go_ret;exact ⟨er,tb HB⟩
   ·rw [if_neg c10] at H;have c10b0:(A7 == a1_2)=false:=beq_eq_false_iff_ne.mpr c10;have c10b1:(A7 != a1_2)=true:=bne_iff_ne.mpr c10;obtain rfl:=os H
    go_enter Try.func91,Try.ntmps91
    go_wp2_with (first|((with_reducible refine gate_dst (N:=2) rfl ?_);refine bx (N:=2) (cs:=#[.bool A2,.int .i64 A6,.int .i64 A7]) (t:=66) ?_;intro A0 hg w16 hbox hb;have A1:=Aside0.mk (hbox);have A9:=Aside0.mk ((by rw [hg];exact (below_size (tb HB)):w.heap.size≤A0));have Aa:=Aside0.mk ((by rw [hg];exact (below_size (tb HB)):w.heap.size≤A0));replace HB:=Aside0.mk (below_step (tb HB) hb);clear hb hbox hg)|((with_reducible refine gate_dst (N:=3) rfl ?_);refine bx (N:=3) (cs:=#[.bool a1_0,.int .i64 a1_1,.int .i64 a1_2]) (t:=66) ?_;intro A3 hg w17 hbox hb;have A8:=Aside0.mk (hbox);have Ab:=Aside0.mk ((by rw [hg];exact (below_size (tb HB)):w.heap.size≤A3));have Ac:=Aside0.mk ((by rw [hg];exact (below_size (tb HB)):w.heap.size≤A3));replace HB:=Aside0.mk (below_step (tb HB) hb);have A4:=Aside0.mk ((by rw [hg];exact Nat.ne_of_lt (blk_lt (g:=A0) (o := .cells #[.bool A2,.int .i64 A6,.int .i64 A7] 66 (0,0)) (dr A1)):A0≠A3));have A5:=Aside0.mk ((by rw [hg];exact Nat.ne_of_gt (blk_lt (g:=A0) (o := .cells #[.bool A2,.int .i64 A6,.int .i64 A7] 66 (0,0)) (dr A1)):A3≠A0));replace A1:=Aside0.mk (blk_below (g:=A0) (o := .cells #[.bool A2,.int .i64 A6,.int .i64 A7] 66 (0,0)) (dr A1) hb);clear hb hbox hg;have hnb18:=A4.out;have hnc18:=A5.out;have hcz19__:=c3_ A1;have hfz19__:=f_ A1;have hcz20__:=c3_ A8;have hfz20__:=f_ A8));go_ret;exact ⟨er,tb HB⟩
  ·rw [if_neg c9] at H;have c9b0:(A6 == a1_1)=false:=beq_eq_false_iff_ne.mpr c9;have c9b1:(A6 != a1_1)=true:=bne_iff_ne.mpr c9;obtain rfl:=os H
   go_enter Try.func91,Try.ntmps91
   go_wp2_with (first|((with_reducible refine gate_dst (N:=2) rfl ?_);refine bx (N:=2) (cs:=#[.bool A2,.int .i64 A6,.int .i64 A7]) (t:=66) ?_;intro A0 hg w21 hbox hb;have A1:=Aside0.mk (hbox);have A9:=Aside0.mk ((by rw [hg];exact (below_size (tb HB)):w.heap.size≤A0));have Aa:=Aside0.mk ((by rw [hg];exact (below_size (tb HB)):w.heap.size≤A0));replace HB:=Aside0.mk (below_step (tb HB) hb);clear hb hbox hg)|((with_reducible refine gate_dst (N:=3) rfl ?_);refine bx (N:=3) (cs:=#[.bool a1_0,.int .i64 a1_1,.int .i64 a1_2]) (t:=66) ?_;intro A3 hg w22 hbox hb;have A8:=Aside0.mk (hbox);have Ab:=Aside0.mk ((by rw [hg];exact (below_size (tb HB)):w.heap.size≤A3));have Ac:=Aside0.mk ((by rw [hg];exact (below_size (tb HB)):w.heap.size≤A3));replace HB:=Aside0.mk (below_step (tb HB) hb);have A4:=Aside0.mk ((by rw [hg];exact Nat.ne_of_lt (blk_lt (g:=A0) (o := .cells #[.bool A2,.int .i64 A6,.int .i64 A7] 66 (0,0)) (dr A1)):A0≠A3));have A5:=Aside0.mk ((by rw [hg];exact Nat.ne_of_gt (blk_lt (g:=A0) (o := .cells #[.bool A2,.int .i64 A6,.int .i64 A7] 66 (0,0)) (dr A1)):A3≠A0));replace A1:=Aside0.mk (blk_below (g:=A0) (o := .cells #[.bool A2,.int .i64 A6,.int .i64 A7] 66 (0,0)) (dr A1) hb);clear hb hbox hg;have hnb23:=A4.out;have hnc23:=A5.out;have hcz24__:=c3_ A1;have hfz24__:=f_ A1;have hcz25__:=c3_ A8;have hfz25__:=f_ A8));go_ret;exact ⟨er,tb HB⟩
end Go.Proofs.Ythipjoioicmcnaa.G
