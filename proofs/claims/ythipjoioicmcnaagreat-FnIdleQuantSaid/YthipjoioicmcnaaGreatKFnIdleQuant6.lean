-- texts of this session, merged by a program of it (wip/gen/pack.py)
import Derived.Test.YthipjoioicmcnaaGreatKFnIdleQuant2
import Derived.Test.YthipjoioicmcnaaGreatKFnIdleQuant4
import Derived.Test.YthipjoioicmcnaaGreatKFnIdleQuant5
import Derived.Test.YthipjoioicmcnaaGreatKFnIdleQuant3
set_option linter.unusedVariables false
set_option linter.unusedSimpArgs false
set_option maxHeartbeats 80000000
set_option maxRecDepth 100000
namespace Go.Proofs.YthipjoioicmcnaaGreat.G
open Go.RowKit Go.Proofs.YthipjoioicmcnaaGreatW.PrintWords Go.Proofs.YthipjoioicmcnaaGreatW.PrintLast Go.Proofs.YthipjoioicmcnaaGreatW.PrintMore Go.Proofs.YthipjoioicmcnaaGreat.Sh
attribute [local go_sem] max2_int min2_int max_two min_two max_three min_three max_four min_four
theorem infoU8:(Tryz.prog.info? 5).map (fun i=>(i.zero,i.size,i.bytes))=some (some (.int .u8 0),1,1):=by kernel_rfl
section
variable {W:World} {g n c go ck b:Nat} {A:Option Addr} {t:TypeId} {xs kn:List Int} {ok:Nat→Prop}
def vcells (A:Option Addr) (n c:Nat) (xs:List Int):Array Value:=(Value.slice A n c :: nums .i64 xs).toArray
theorem v_row (h:W.heap[g]? = some (.cells (vcells A n c xs) t (0,0))):W.cell? ⟨g,0,none⟩=some (.slice A n c):=(blk_cell h 0).trans rfl
theorem v_cell (h:W.heap[g]? = some (.cells (vcells A n c xs) t (0,0))) (i:Int) (h0:0≤i) (h1:i < (xs.length:Int)):W.cell? ⟨g,1 + i.toNat,none⟩=some (.int .i64 (rd xs i)):=by
 rw [blk_cell h];rw [Nat.add_comm]
 simp [vcells,nums,rd,List.getD_eq_getElem?_getD,List.getElem?_eq_getElem (show i.toNat < xs.length by omega)]
theorem v_put (h:W.heap[g]? = some (.cells (vcells A n c xs) t (0,0))) (j:Nat) (v:Int):(W.setCell ⟨g,1 + j,none⟩ (.int .i64 v)).heap[g]? = some (.cells (vcells A n c (xs.set j v)) t (0,0)) :=
 blk_put h (1 + j) _ (by rw [Nat.add_comm];simp [vcells,nums,List.map_set])
theorem kn_get (h:Kd.R (Kd.int .i64) 3 W b ok (.slice (some ⟨go,0,none⟩) n c) kn) (i:Int) (h0:0≤i) (h1:i < n):W.cell? ⟨go,i.toNat,none⟩=some (.int .i64 (rd kn i))∧W.frozen? ⟨go,i.toNat,none⟩=false:=Kd.R_celln (0:Int) h i h0 h1
theorem kn_put (h:Kd.R (Kd.int .i64) 3 W b ok (.slice (some ⟨go,0,none⟩) n c) kn) (i:Int) (v:Int):Kd.R (Kd.int .i64) 3 (W.setCell ⟨go,i.toNat,none⟩ (.int .i64 v)) b ok (.slice (some ⟨go,0,none⟩) n c) (kn.set i.toNat v)∧W.grownBy (W.setCell ⟨go,i.toNat,none⟩ (.int .i64 v)) (some go):=Kd.R_putg h i v
theorem gr_below {w W':World} {row:Option Nat} (h:w.grownBy W row) (hb:Below w.heap.size W W'):w.grownBy W' row :=
 ⟨hb.os.trans h.os,hb.tape.trans h.tape,hb.output.trans h.output,Nat.le_trans h.size hb.size,fun k hk hr=>(hb.block k hk).trans (h.block k hk hr)⟩
theorem gr_up {w W':World} {row:Option Nat} (h:w.grownBy W row) (hb:Below W.heap.size W W'):w.grownBy W' row :=
 ⟨hb.os.trans h.os,hb.tape.trans h.tape,hb.output.trans h.output,Nat.le_trans h.size hb.size,fun k hk hr=>(hb.block k (Nat.lt_of_lt_of_le hk h.size)).trans (h.block k hk hr)⟩
theorem below_gr {w0 W':World} (h:Below b w0 W) (hg:W.grownBy W' (some go)) (hb:b≤go) (hs:b≤W.heap.size):Below b w0 W':=pw_below_grown h _ hs hg (fun k e=>by injection e with e;omega)
theorem kn_base (h:Kd.R (Kd.int .i64) 3 W b ok (.slice (some ⟨go,0,none⟩) n c) kn) (i:Int) (h0:0≤i) (h1:i < n):b≤go∧go < W.heap.size:=by
 have hl:=(Kd.R_reads' h).1;obtain ⟨g2,c2,e,h2,h3,_⟩:=Kd.R_form h (by omega);cases e;exact ⟨h2,h3⟩
end
mutual
def vaF:Nat→List S52→List Int→Int→List Int→Option (Int × List Int)
 | 0,_,_,_,_=>none
 | k + 1,l,xs,i,kn=>if 0≤i∧i < (kn.length:Int) then (if 0≤rd kn i then some (rd kn i,kn) else
   (if i < (l.length:Int) then (if (rd_T52 l i).f0=1 then (if 0≤(rd_T52 l i).f2∧(rd_T52 l i).f2 < (xs.length:Int) then some (rd xs (rd_T52 l i).f2,kn.set i.toNat (rd xs (rd_T52 l i).f2)) else none)
   else (impl_isQuant.f (rd_T52 l i).f0 (rd_T52 l i).f1 (rd_T52 l i).f2 (rd_T52 l i).f3 (rd_T52 l i).f4 (rd_T52 l i).f5).bind fun t=>if t=true then none else (impl_Parts.f k (rd_T52 l i).f0 (rd_T52 l i).f1 (rd_T52 l i).f2 (rd_T52 l i).f3 (rd_T52 l i).f4 (rd_T52 l i).f5).bind fun ps=>(vaL k l xs ps kn 0 1 0 0 0).bind fun q=>(impl_Apply.f k (rd_T52 l i).f0 (rd_T52 l i).f1 (rd_T52 l i).f2 (rd_T52 l i).f3 (rd_T52 l i).f4 (rd_T52 l i).f5 q.2.1 q.2.2.1 q.2.2.2.1 q.2.2.2.2).bind fun v=>some (v,q.1.set i.toNat v)) else none)) else none
def vaL:Nat→List S52→List Int→List Int→List Int→Int→Int→Int→Int→Int→Option (List Int × Int × Int × Int × Int)
 | 0,_,_,_,_,_,_,_,_,_=>none
 | k + 1,l,xs,ps,kn,j,wd,x0,x1,x2=>if j < (ps.length:Int) then (if 0≤j then (vaF k l xs (rd ps j) kn).bind fun q =>
   if j=0 then (if 0≤rd ps 0∧rd ps 0 < (l.length:Int) then vaL k l xs ps q.2 1 (rd_T52 l (rd ps 0)).f1 q.1 x1 x2 else none) else if j=1 then vaL k l xs ps q.2 2 wd x0 q.1 x2 else if j=2 then vaL k l xs ps q.2 3 wd x0 x1 q.1 else none else none) else some (kn,wd,x0,x1,x2)
end
theorem value_calls (l:List S52) (A:Option Addr) (c:Nat) (hc:l.length≤c) (xs:List Int) (hx8:xs.length=8) (w0:World) (hl0:Kd.C k52 w0 A l.length l) (gv go n ck:Nat):∀ (k:Nat) (i:Int) (kn:List Int) (r:Int × List Int) (w:World) (hb0:Below w0.heap.size w0 w) (hbk:w.heap[gv]? = some (.cells (vcells A l.length c xs) 81 (0,0))) (hk0:Kd.R (Kd.int .i64) 3 w w0.heap.size (fun _=>True) (.slice (some ⟨go,0,none⟩) n ck) kn) (h:vaF k l xs i kn=some r),
  Calls Tryz.prog 63 #[.pointer (some ⟨gv,0,none⟩),.int .i64 i,.slice (some ⟨go,0,none⟩) n ck] w fun e w'=>e = .returned (.int .i64 r.1)∧Kd.R (Kd.int .i64) 3 w' w0.heap.size (fun _=>True) (.slice (some ⟨go,0,none⟩) n ck) r.2∧w.grownBy w' (some go)∧Below w0.heap.size w0 w':=by
 intro k
 induction k using Nat.strongRecOn with|ind k ih =>
 intro i kn r w hb0 hbk hk0 h;have HL0:=Aside0.mk hl0;have HC0:=Aside0.mk hc;have HB0:=Aside0.mk hb0;have BV0:=Aside0.mk hbk;have HK0:=Aside0.mk hk0;have IH:=Aside0.mk ih;have X8:=Aside0.mk hx8;clear hl0 hc hb0 hbk hk0 ih hx8
 cases k with
 | zero=>exact absurd h (by simp [vaF])
 | succ k1 =>
 simp only [vaF] at h;have hkl:=(Kd.R_reads' HK0.out).1;rw [← hkl] at h
 by_cases c1:0≤i∧i < (n:Int)
 case neg=>rw [if_neg c1] at h;cases h
 rw [if_pos c1] at h;have C1:=Aside0.mk c1;obtain ⟨GB,GL⟩:=kn_base HK0.out i c1.1 c1.2;replace GB:=Aside0.mk GB;replace GL:=Aside0.mk GL;obtain ⟨hk1,hf1⟩:=kn_get HK0.out i c1.1 c1.2;clear hkl;obtain ⟨c1,c2⟩:=c1;have d1:decide (0≤i)=true:=decide_eq_true c1;have d2:decide (i < (n:Int))=true:=decide_eq_true c2;replace c1:=eq_true c1;replace c2:=eq_true c2
 by_cases c3:0≤rd kn i
 ·rw [if_pos c3] at h;obtain rfl:=Option.some.inj h;clear h;have d3:decide (0≤rd kn i)=true:=decide_eq_true c3;clear c3
  go_enter Tryz.func63,Tryz.ntmps63
  go_wp2;go_ret;exact ⟨rfl,HK0.out,World.grownBy.refl _ _,HB0.out⟩
 rw [if_neg c3] at h;have d3:decide (0≤rd kn i)=false:=decide_eq_false c3;clear c3
 by_cases c4:i < (l.length:Int)
 case neg=>rw [if_neg c4] at h;cases h
 rw [if_pos c4] at h;obtain ⟨ad,e_,hx0,hx1,hx2,hx3,hx4,hx5⟩:=at_T52 HL0.out i C1.out.1 c4;cases e_;replace hx0:=ct HB0 hx0;replace hx1:=ct HB0 hx1;replace hx2:=ct HB0 hx2;replace hx3:=ct HB0 hx3;replace hx4:=ct HB0 hx4;replace hx5:=ct HB0 hx5;have d4:decide (i < (l.length:Int))=true:=decide_eq_true c4;replace c4:=eq_true c4;have hv0:=v_row BV0.out
 by_cases c5:(rd_T52 l i).f0=1
 ·rw [if_pos c5] at h;have d5:((rd_T52 l i).f0 == 1)=true:=beq_iff_eq.2 c5;clear c5
  by_cases c8:0≤(rd_T52 l i).f2∧(rd_T52 l i).f2 < (xs.length:Int)
  case neg=>rw [if_neg c8] at h;cases h
  rw [if_pos c8] at h;obtain rfl:=Option.some.inj h;clear h;have C8:=Aside0.mk c8;obtain ⟨c8,c9⟩:=c8;rw [X8.out] at c9;replace c8:=eq_true c8;replace c9:((rd_T52 l i).f2 < 8)=True:=eq_true c9
  go_enter Tryz.func63,Tryz.ntmps63
  go_wp2_with (first|((with_reducible refine gate_dst (N:=7) rfl ?_);refine bx (N:=7) (cs:=#[.int .i64 0,.int .i64 0,.int .i64 0,.int .i64 0,.int .i64 0,.int .i64 0]) (t:=52) ?_;intro gn hg w1 hbox hb;have BN0:=Aside0.mk hbox;have HX0:=Aside0.mk hb;have GN:=Aside0.mk (show w.heap.size≤gn by rw [hg];exact Nat.le_refl _);have hz0:w1.cell? ⟨gn,0,none⟩=some (.int .i64 0):=(blk_cell BN0.out 0).trans rfl;have hfz0:=blk_frozen BN0.out 0;have hz1:w1.cell? ⟨gn,1,none⟩=some (.int .i64 0):=(blk_cell BN0.out 1).trans rfl;have hfz1:=blk_frozen BN0.out 1;have hz2:w1.cell? ⟨gn,2,none⟩=some (.int .i64 0):=(blk_cell BN0.out 2).trans rfl;have hfz2:=blk_frozen BN0.out 2;have hz3:w1.cell? ⟨gn,3,none⟩=some (.int .i64 0):=(blk_cell BN0.out 3).trans rfl;have hfz3:=blk_frozen BN0.out 3;have hz4:w1.cell? ⟨gn,4,none⟩=some (.int .i64 0):=(blk_cell BN0.out 4).trans rfl;have hfz4:=blk_frozen BN0.out 4;have hz5:w1.cell? ⟨gn,5,none⟩=some (.int .i64 0):=(blk_cell BN0.out 5).trans rfl;have hfz5:=blk_frozen BN0.out 5;clear hg hbox hb));have hb6:Below w.heap.size w ((((((w1.setCell ⟨gn,0,none⟩ (.int .i64 (rd_T52 l i).f0)).setCell ⟨gn,1,none⟩ (.int .i64 (rd_T52 l i).f1)).setCell ⟨gn,2,none⟩ (.int .i64 (rd_T52 l i).f2)).setCell ⟨gn,3,none⟩ (.int .i64 (rd_T52 l i).f3)).setCell ⟨gn,4,none⟩ (.int .i64 (rd_T52 l i).f4)).setCell ⟨gn,5,none⟩ (.int .i64 (rd_T52 l i).f5)):=below_set (below_set (below_set (below_set (below_set (below_set (HX0.out) GN.out) GN.out) GN.out) GN.out) GN.out) GN.out;have BN:Aside0 (((((((w1.setCell ⟨gn,0,none⟩ (.int .i64 (rd_T52 l i).f0)).setCell ⟨gn,1,none⟩ (.int .i64 (rd_T52 l i).f1)).setCell ⟨gn,2,none⟩ (.int .i64 (rd_T52 l i).f2)).setCell ⟨gn,3,none⟩ (.int .i64 (rd_T52 l i).f3)).setCell ⟨gn,4,none⟩ (.int .i64 (rd_T52 l i).f4)).setCell ⟨gn,5,none⟩ (.int .i64 (rd_T52 l i).f5)).heap[gn]? = some (.cells #[.int .i64 (rd_T52 l i).f0,.int .i64 (rd_T52 l i).f1,.int .i64 (rd_T52 l i).f2,.int .i64 (rd_T52 l i).f3,.int .i64 (rd_T52 l i).f4,.int .i64 (rd_T52 l i).f5] 52 (0,0))):=⟨blk_put (cs:=#[.int .i64 (rd_T52 l i).f0,.int .i64 (rd_T52 l i).f1,.int .i64 (rd_T52 l i).f2,.int .i64 (rd_T52 l i).f3,.int .i64 (rd_T52 l i).f4,.int .i64 0]) (blk_put (cs:=#[.int .i64 (rd_T52 l i).f0,.int .i64 (rd_T52 l i).f1,.int .i64 (rd_T52 l i).f2,.int .i64 (rd_T52 l i).f3,.int .i64 0,.int .i64 0]) (blk_put (cs:=#[.int .i64 (rd_T52 l i).f0,.int .i64 (rd_T52 l i).f1,.int .i64 (rd_T52 l i).f2,.int .i64 0,.int .i64 0,.int .i64 0]) (blk_put (cs:=#[.int .i64 (rd_T52 l i).f0,.int .i64 (rd_T52 l i).f1,.int .i64 0,.int .i64 0,.int .i64 0,.int .i64 0]) (blk_put (cs:=#[.int .i64 (rd_T52 l i).f0,.int .i64 0,.int .i64 0,.int .i64 0,.int .i64 0,.int .i64 0]) (blk_put (cs:=#[.int .i64 0,.int .i64 0,.int .i64 0,.int .i64 0,.int .i64 0,.int .i64 0]) (BN0.out) 0 (.int .i64 (rd_T52 l i).f0) rfl) 1 (.int .i64 (rd_T52 l i).f1) rfl) 2 (.int .i64 (rd_T52 l i).f2) rfl) 3 (.int .i64 (rd_T52 l i).f3) rfl) 4 (.int .i64 (rd_T52 l i).f4) rfl) 5 (.int .i64 (rd_T52 l i).f5) rfl⟩;clear hz0 hfz0 hz1 hfz1 hz2 hfz2 hz3 hfz3 hz4 hfz4 hz5 hfz5 BN0 HX0;generalize ((((((w1.setCell ⟨gn,0,none⟩ (.int .i64 (rd_T52 l i).f0)).setCell ⟨gn,1,none⟩ (.int .i64 (rd_T52 l i).f1)).setCell ⟨gn,2,none⟩ (.int .i64 (rd_T52 l i).f2)).setCell ⟨gn,3,none⟩ (.int .i64 (rd_T52 l i).f3)).setCell ⟨gn,4,none⟩ (.int .i64 (rd_T52 l i).f4)).setCell ⟨gn,5,none⟩ (.int .i64 (rd_T52 l i).f5))=w5 at BN hb6 ⊢;replace hb6:=below_drew1 hb6;replace BN:=Aside0.mk (blk_drew BN.out);have HG:=Aside0.mk (gr_below (World.grownBy.refl w (some go)) hb6);have BV:=Aside0.mk (blk_below BV0.out hb6);have HK:=Aside0.mk (Kd.R_below HK0.out hb6);have HB:=Aside0.mk (below_step HB0.out hb6);clear hb6 hk1 hf1
  refine start_ (n:=11) (S:=fun w'=>w'.cell? ⟨gn,0,none⟩=some (.int .i64 (rd_T52 l i).f0)∧w'.cell? ⟨gn,1,none⟩=some (.int .i64 (rd_T52 l i).f1)∧w'.cell? ⟨gn,2,none⟩=some (.int .i64 (rd_T52 l i).f2)∧w'.cell? ⟨gn,3,none⟩=some (.int .i64 (rd_T52 l i).f3)∧w'.cell? ⟨gn,4,none⟩=some (.int .i64 (rd_T52 l i).f4)∧w'.cell? ⟨gn,5,none⟩=some (.int .i64 (rd_T52 l i).f5)∧w'.cell? ⟨gv,1 + (rd_T52 l i).f2.toNat,none⟩=some (.int .i64 (rd xs (rd_T52 l i).f2))) (ds:=[10]) (tf 0 11) (by kernel_rfl) rfl rfl ⟨(blk_cell BN.out 0).trans rfl,(blk_cell BN.out 1).trans rfl,(blk_cell BN.out 2).trans rfl,(blk_cell BN.out 3).trans rfl,(blk_cell BN.out 4).trans rfl,(blk_cell BN.out 5).trans rfl,v_cell BV.out _ C8.out.1 C8.out.2⟩ (fun hHeld=>?_);generalize w5.drew=w6 at BN BV HK HG HB hHeld ⊢;have hst:=kn_get HK.out i C1.out.1 C1.out.2;obtain ⟨hk6,hf6⟩:=hst;refine pv 0 70 (tf 1 10) ?_;refine pv 1 71 (tf 2 9) ?_;refine pv 2 72 (tf 3 8) ?_;refine pv 3 73 (tf 4 7) ?_;refine pv 5 75 #[true,true,true,true,false,true,false,false,false,false,false] ?_;refine pv 6 76 #[true,true,true,true,false,true,true,false,false,false,false] ?_;refine tv 4 74 (tf 7 4) hHeld ?_;refine pv 7 77 (tf 8 3) ?_;refine tv 8 78 (tf 9 2) hHeld ?_;refine pv 9 79 (tf 10 1) ?_;refine last_ (i:=10) (N:=none) (tf 11 0) rfl rfl (by kernel_rfl) (by decide) (fun K hK=>?_);refine skip_ (w1:=?_) (by rfl) rfl ?_ ?_;rotate_left
  ·go_simp;rfl
  refine hK.out _ _ ?_;clear hK K;refine done_ (by kernel_rfl) ?_;go_wp2;go_ret;exact ⟨rfl,(kn_put HK.out i _).1,HG.out.trans (kn_put HK.out i _).2,below_set HB.out GB.out⟩
 rw [if_neg c5] at h;have d5:((rd_T52 l i).f0 == 1)=false:=beq_eq_false_iff_ne.2 c5;clear c5;obtain ⟨t,ht,h⟩:=Option.bind_eq_some_iff.1 h;have HQ:=Aside0.mk ht;clear ht
 cases t with
 | true=>rw [if_pos rfl] at h;cases h
 | false =>
 rw [if_neg (by decide)] at h;obtain ⟨ps,hp,h⟩:=Option.bind_eq_some_iff.1 h;obtain ⟨q,hl,h⟩:=Option.bind_eq_some_iff.1 h;obtain ⟨v,hap,h⟩:=Option.bind_eq_some_iff.1 h;obtain rfl:=Option.some.inj h;obtain ⟨kn',wd',y0,y1,y2⟩:=q;have HP:=Aside0.mk hp;have HLL:=Aside0.mk hl;have HAP:=Aside0.mk hap;clear hp hl hap h
 have NVg:gv≠go:=by
  rintro rfl;obtain ⟨cs,hcs⟩:=Kd.R_typed HK0.out gv rfl;rw [BV0.out] at hcs
  simp at hcs
 have NVG:=Aside0.mk NVg;clear NVg
 go_enter Tryz.func63,Tryz.ntmps63
 go_wp2_with (first|((with_reducible refine gate_dst (N:=7) rfl ?_);refine bx (N:=7) (cs:=#[.int .i64 0,.int .i64 0,.int .i64 0,.int .i64 0,.int .i64 0,.int .i64 0]) (t:=52) ?_;intro gn hg w1 hbox hb;have BN0:=Aside0.mk hbox;have HX0:=Aside0.mk hb;have GN:=Aside0.mk (show w.heap.size≤gn by rw [hg];exact Nat.le_refl _);have hz0:w1.cell? ⟨gn,0,none⟩=some (.int .i64 0):=(blk_cell BN0.out 0).trans rfl;have hfz0:=blk_frozen BN0.out 0;have hz1:w1.cell? ⟨gn,1,none⟩=some (.int .i64 0):=(blk_cell BN0.out 1).trans rfl;have hfz1:=blk_frozen BN0.out 1;have hz2:w1.cell? ⟨gn,2,none⟩=some (.int .i64 0):=(blk_cell BN0.out 2).trans rfl;have hfz2:=blk_frozen BN0.out 2;have hz3:w1.cell? ⟨gn,3,none⟩=some (.int .i64 0):=(blk_cell BN0.out 3).trans rfl;have hfz3:=blk_frozen BN0.out 3;have hz4:w1.cell? ⟨gn,4,none⟩=some (.int .i64 0):=(blk_cell BN0.out 4).trans rfl;have hfz4:=blk_frozen BN0.out 4;have hz5:w1.cell? ⟨gn,5,none⟩=some (.int .i64 0):=(blk_cell BN0.out 5).trans rfl;have hfz5:=blk_frozen BN0.out 5;clear hg hbox hb)|((with_reducible refine gate_callee (f:=50) rfl ?_);(try (refine gate_guard (by rfl) ?_;dsimp only));refine goesL_ (some 82) rfl rfl Tryz.func50 (by kernel_rfl) rfl #[.agg #[.int .i64 (rd_T52 l i).f0,.int .i64 (rd_T52 l i).f1,.int .i64 (rd_T52 l i).f2,.int .i64 (rd_T52 l i).f3,.int .i64 (rd_T52 l i).f4,.int .i64 (rd_T52 l i).f5]] rfl ml ?_;(with_reducible refine (impl_isQuant.calls (rd_T52 l i).f0 (rd_T52 l i).f1 (rd_T52 l i).f2 (rd_T52 l i).f3 (rd_T52 l i).f4 (rd_T52 l i).f5 false _ HQ.out).mono ?_);rintro e w2 ⟨rfl,hb⟩;refine ⟨_,rfl,?_⟩;have HXb:=Aside0.mk (below_step (below_set (below_set (below_set (below_set (below_set (below_set (HX0.out) GN.out) GN.out) GN.out) GN.out) GN.out) GN.out) hb);have BN6:((((((w1.setCell ⟨gn,0,none⟩ (.int .i64 (rd_T52 l i).f0)).setCell ⟨gn,1,none⟩ (.int .i64 (rd_T52 l i).f1)).setCell ⟨gn,2,none⟩ (.int .i64 (rd_T52 l i).f2)).setCell ⟨gn,3,none⟩ (.int .i64 (rd_T52 l i).f3)).setCell ⟨gn,4,none⟩ (.int .i64 (rd_T52 l i).f4)).setCell ⟨gn,5,none⟩ (.int .i64 (rd_T52 l i).f5)).heap[gn]? = some (.cells #[.int .i64 (rd_T52 l i).f0,.int .i64 (rd_T52 l i).f1,.int .i64 (rd_T52 l i).f2,.int .i64 (rd_T52 l i).f3,.int .i64 (rd_T52 l i).f4,.int .i64 (rd_T52 l i).f5] 52 (0,0)):=blk_put (cs:=#[.int .i64 (rd_T52 l i).f0,.int .i64 (rd_T52 l i).f1,.int .i64 (rd_T52 l i).f2,.int .i64 (rd_T52 l i).f3,.int .i64 (rd_T52 l i).f4,.int .i64 0]) (blk_put (cs:=#[.int .i64 (rd_T52 l i).f0,.int .i64 (rd_T52 l i).f1,.int .i64 (rd_T52 l i).f2,.int .i64 (rd_T52 l i).f3,.int .i64 0,.int .i64 0]) (blk_put (cs:=#[.int .i64 (rd_T52 l i).f0,.int .i64 (rd_T52 l i).f1,.int .i64 (rd_T52 l i).f2,.int .i64 0,.int .i64 0,.int .i64 0]) (blk_put (cs:=#[.int .i64 (rd_T52 l i).f0,.int .i64 (rd_T52 l i).f1,.int .i64 0,.int .i64 0,.int .i64 0,.int .i64 0]) (blk_put (cs:=#[.int .i64 (rd_T52 l i).f0,.int .i64 0,.int .i64 0,.int .i64 0,.int .i64 0,.int .i64 0]) (blk_put (cs:=#[.int .i64 0,.int .i64 0,.int .i64 0,.int .i64 0,.int .i64 0,.int .i64 0]) (BN0.out) 0 (.int .i64 (rd_T52 l i).f0) rfl) 1 (.int .i64 (rd_T52 l i).f1) rfl) 2 (.int .i64 (rd_T52 l i).f2) rfl) 3 (.int .i64 (rd_T52 l i).f3) rfl) 4 (.int .i64 (rd_T52 l i).f4) rfl) 5 (.int .i64 (rd_T52 l i).f5) rfl;have BNb:=Aside0.mk (blk_below BN6 hb);clear hb BN6;clear hz0 hfz0 hz1 hfz1 hz2 hfz2 hz3 hfz3 hz4 hfz4 hz5 hfz5 BN0 HX0;obtain ⟨hcn0,hcn1,hcn2,hcn3,hcn4,hcn5⟩:=c6_ BNb)|((with_reducible refine gate_dst (N:=8) rfl ?_);refine bx (N:=8) (cs:=#[.int .i64 0,.int .i64 0,.int .i64 0]) (t:=100) ?_;intro ga hg w2b hbox hb;have BAa:=Aside0.mk hbox;have BNc:=Aside0.mk (blk_below BNb.out hb);have HXc:=Aside0.mk (below_step HXb.out hb);have GA:=Aside0.mk (show w.heap.size≤ga by rw [hg];exact HXb.out.size);have NE:=Aside0.mk (show gn≠ga by rw [hg];exact Nat.ne_of_lt (blk_lt BNb.out));clear BNb HXb;clear hcn0 hcn1 hcn2 hcn3 hcn4 hcn5;have hn1_:=NE.out;have hn2_:ga≠gn:=fun e_=>NE.out e_.symm;obtain ⟨hcn0,hcn1,hcn2,hcn3,hcn4,hcn5⟩:=c6_ BNc;obtain ⟨hcw0,hcw1,hcw2⟩:=c3_ BAa;have hfw0:=blk_frozen BAa.out 0;have hfw1:=blk_frozen BAa.out 1;have hfw2:=blk_frozen BAa.out 2;clear hg hbox hb)|((with_reducible refine gate_callee (f:=73) rfl ?_);(try (refine gate_guard (by rfl) ?_;dsimp only));refine goesL_ (some 30) rfl rfl Tryz.func73 (by kernel_rfl) rfl #[.agg #[.int .i64 (rd_T52 l i).f0,.int .i64 (rd_T52 l i).f1,.int .i64 (rd_T52 l i).f2,.int .i64 (rd_T52 l i).f3,.int .i64 (rd_T52 l i).f4,.int .i64 (rd_T52 l i).f5]] rfl ml ?_;(with_reducible refine (impl_Parts.calls k1 (rd_T52 l i).f0 (rd_T52 l i).f1 (rd_T52 l i).f2 (rd_T52 l i).f3 (rd_T52 l i).f4 (rd_T52 l i).f5 ps _ HP.out).mono ?_);rintro e w3 ⟨v_,rfl,ho,hb⟩;refine ⟨_,rfl,?_⟩;have BA5:(((w2b.setCell ⟨ga,0,none⟩ (.int .i64 0)).setCell ⟨ga,1,none⟩ (.int .i64 0)).setCell ⟨ga,2,none⟩ (.int .i64 0)).heap[ga]? = some (.cells #[.int .i64 0,.int .i64 0,.int .i64 0] 100 (0,0)):=blk_put (cs:=#[.int .i64 0,.int .i64 0,.int .i64 0]) (blk_put (cs:=#[.int .i64 0,.int .i64 0,.int .i64 0]) (blk_put (cs:=#[.int .i64 0,.int .i64 0,.int .i64 0]) BAa.out 0 _ rfl) 1 _ rfl) 2 _ rfl;have BN5:=blk_far (blk_far (blk_far BNc.out (p:=⟨ga,0,none⟩) NE.out (.int .i64 0)) (p:=⟨ga,1,none⟩) NE.out (.int .i64 0)) (p:=⟨ga,2,none⟩) NE.out (.int .i64 0);have HX5:Below w.heap.size w (((w2b.setCell ⟨ga,0,none⟩ (.int .i64 0)).setCell ⟨ga,1,none⟩ (.int .i64 0)).setCell ⟨ga,2,none⟩ (.int .i64 0)):=below_set (below_set (below_set HXc.out GA.out) GA.out) GA.out;have BA:=Aside0.mk (blk_below BA5 hb);have BNd:=Aside0.mk (blk_below BN5 hb);have HXd:=Aside0.mk (below_step HX5 hb);have HR:=Aside0.mk (Kd.R_lower ho HX5.size);clear ho hb BNc HXc BAa BA5 BN5 HX5 hn1_ hn2_;clear hcn0 hcn1 hcn2 hcn3 hcn4 hcn5;clear hcw0 hcw1 hcw2 hfw0 hfw1 hfw2;obtain ⟨Ap,cp,ep⟩:=Kd.R_slice HR.out;subst ep))
 have HG1:=Aside0.mk (gr_below (World.grownBy.refl w (some go)) HXd.out);have HB1:=Aside0.mk (below_gr HB0.out HG1.out GB.out HB0.out.size);have HK1_:=Aside0.mk (Kd.R_below HK0.out HXd.out);have NGN:=Aside0.mk (show gn≠go from fun e=>by have:=GN.out;have:=GL.out;omega);have NGA:=Aside0.mk (show ga≠go from fun e=>by have:=GA.out;have:=GL.out;omega);have HRp:=Aside0.mk (Kd.R_mono (Kd.R_bound HR.out) (ok':=fun k=>k≠go) (fun k hk=>by have:=hk.2.1;have:=GL.out;omega));clear HR hk1 hf1 hx0 hx1 hx2 hx3 hx4 hx5 hv0;have GA0:=Aside0.mk (Nat.le_trans HB0.out.size GA.out)
 go_loopg [9,32] k1 (fun kq v9 v32 wr=>∃ (j wd x0 x1 x2:Int) (kn2:List Int),v9 = .int .i64 wd∧v32 = .int .i64 j∧Aside0 (vaL kq l xs ps kn2 j wd x0 x1 x2=some (kn',wd',y0,y1,y2))∧Aside0 (kq≤k1)∧Aside0 (wr.heap[gn]? = some (.cells #[.int .i64 (rd_T52 l i).f0,.int .i64 (rd_T52 l i).f1,.int .i64 (rd_T52 l i).f2,.int .i64 (rd_T52 l i).f3,.int .i64 (rd_T52 l i).f4,.int .i64 (rd_T52 l i).f5] 52 (0,0)))∧Aside0 (wr.heap[ga]? = some (.cells #[.int .i64 x0,.int .i64 x1,.int .i64 x2] 100 (0,0)))∧Aside0 (Kd.R (Kd.int .i64) 3 wr w.heap.size (fun k=>k≠go) (.slice Ap ps.length cp) ps)∧Aside0 (Kd.R (Kd.int .i64) 3 wr w0.heap.size (fun _=>True) (.slice (some ⟨go,0,none⟩) n ck) kn2)∧Aside0 (w.grownBy wr (some go))∧Aside0 (Below w0.heap.size w0 wr))
 case atStart=>exact ⟨0,1,0,0,0,_,rfl,rfl,HLL,⟨Nat.le_refl _⟩,BNd,BA,HRp,HK1_,HG1,HB1⟩
 case round =>
  clear HLL BNd BA HRp HK1_ HG1 HB1 d4 c4 d5 d3 d1 d2 c1 c2;obtain ⟨j,wd,x0,x1,x2,kn2,rfl,rfl,HA,HK1,BN,BA,HR,HK,HG,HB⟩:=hrel;have BV:=Aside0.mk (blk_grown BV0.out HG.out (by intro e;injection e with e;exact NVG.out e));have NVA:=Aside0.mk (show gv≠ga from fun e=>by have h1:=blk_lt BV0.out;have:=GA.out;omega);have NE1:=NE.out
  have NE2:ga≠gn:=fun e=>NE.out e.symm
  have NE3:=NVA.out
  have NE4:ga≠gv:=fun e=>NVA.out e.symm
  cases gk with
  | zero=>exact absurd HA.out (by simp [vaL])
  | succ k2 =>
   have H:=HA.out;clear HA;simp only [vaL] at H
   by_cases c3:j < (ps.length:Int)
   ·rw [if_pos c3] at H
    by_cases c4:0≤j
    case neg=>rw [if_neg c4] at H;cases H
    rw [if_pos c4] at H;obtain ⟨qv,hv,H⟩:=Option.bind_eq_some_iff.1 H;have HVF:=Aside0.mk hv;clear hv;have d3:decide (j < (ps.length:Int))=true:=decide_eq_true c3;have C3:=Aside0.mk c3;have d4:decide (0≤j)=true:=decide_eq_true c4;obtain ⟨ap,e_,hxp⟩:=Kd.at_int (Kd.R_reads' HR.out).2.2 j c4 c3;cases e_;replace c3:=eq_true c3;replace c4:=eq_true c4
    by_cases z0:j=0
    ·subst z0;rw [if_pos rfl] at H
     by_cases c5:0≤rd ps 0∧rd ps 0 < (l.length:Int)
     case neg=>rw [if_neg c5] at H;cases H
     rw [if_pos c5] at H;obtain ⟨ad2,e_,_,hx1,_⟩:=at_T52 HL0.out (rd ps 0) c5.1 c5.2
     obtain rfl:ad=ad2:=by injection e_
     clear e_
     have hxs:∀ W v,Below w0.heap.size w0 W→(W.setCell ⟨ga,0,none⟩ v).cell? ⟨(ad.add ((rd ps 0).toNat * 6)).block,(ad.add ((rd ps 0).toNat * 6)).off + 1,none⟩=some (.int .i64 (rd_T52 l (rd ps 0)).f1):=fun W v hW=>((below_set hW GA0.out).cell (World.block_lt_of_cell? w0 _ hx1)).trans hx1
     have HXS:=Aside0.mk hxs;clear hx1 hxs;obtain ⟨c5,c6⟩:=c5;have d5:decide (0≤rd ps 0)=true:=decide_eq_true c5;have d6:decide (rd ps 0 < (l.length:Int))=true:=decide_eq_true c6;replace c5:=eq_true c5;replace c6:=eq_true c6;have d3n:decide (0 < ps.length)=true:=decide_eq_true (by have:=C3.out;omega);have q3n:(0 < ps.length)=True:=eq_true (by have:=C3.out;omega);have H':=Aside0.mk H;rw [show ((0:Int)).toNat=0 from rfl,Addr.add_zero'] at hxp;clear H;go_wp2_with (first|((with_reducible refine gate_callee (f:=63) rfl ?_);(try (refine gate_guard (by rfl) ?_;dsimp only));refine goesL_ (some 41) rfl rfl Tryz.func63 (by kernel_rfl) rfl #[.pointer (some ⟨gv,0,none⟩),.int .i64 (rd ps 0),.slice (some ⟨go,0,none⟩) n ck] rfl ml ?_;(with_reducible refine (IH.out k2 (by have:=HK1.out;omega) (rd ps 0) kn2 qv _ HB.out BV.out HK.out HVF.out).mono ?_);rintro e w5 ⟨rfl,hk,hg,hb⟩;refine ⟨_,rfl,?_⟩;have HKb:=Aside0.mk hk;have HBb:=Aside0.mk hb;have BNb:=Aside0.mk (blk_grown BN.out hg (by intro e;injection e with e;exact NGN.out e));have BAb:=Aside0.mk (blk_grown BA.out hg (by intro e;injection e with e;exact NGA.out e));have BVb:=Aside0.mk (blk_grown BV.out hg (by intro e;injection e with e;exact NVG.out e));have HRb:=Aside0.mk (Kd.R_grown HR.out hg (fun k hk e=>hk (by injection e)));have HGb:=Aside0.mk (HG.out.trans hg);clear hk hg hb;obtain ⟨hcw0,hcw1,hcw2⟩:=c3_ BAb;have hfw0:=blk_frozen BAb.out 0;have hfw1:=blk_frozen BAb.out 1;have hfw2:=blk_frozen BAb.out 2;have hv5:=v_row BVb.out;have hx5:=HXS.out w5 (.int .i64 qv.1) HBb.out));go_roundg k2
     case measure=>have:=HK1.out;omega
     case rel=>exact ⟨1,(rd_T52 l (rd ps 0)).f1,qv.1,x1,x2,qv.2,(by first|rfl|(simp;done)),(by first|rfl|(simp;done)),H',⟨by have:=HK1.out;omega⟩,⟨blk_far BNb.out NE1 _⟩,⟨blk_put (cs:=#[.int .i64 x0,.int .i64 x1,.int .i64 x2]) BAb.out 0 _ rfl⟩,⟨Kd.R_set HRb.out BAb.out (by decide) 0 _⟩,⟨Kd.R_set HKb.out BAb.out (by decide) 0 _⟩,⟨gr_below HGb.out (Below.setCell (p:=⟨ga,0,none⟩) (Below.refl w.heap.size w5) GA.out _)⟩,⟨below_set HBb.out GA0.out⟩⟩
    rw [if_neg z0] at H
    by_cases z1:j=1
    ·subst z1;rw [if_pos rfl] at H;have d3n:decide (1 < ps.length)=true:=decide_eq_true (by have:=C3.out;omega);have H':=Aside0.mk H;rw [show ((1:Int)).toNat=1 from rfl,show ap.add 1=⟨ap.block,ap.off + 1,none⟩ from rfl] at hxp;clear H z0;go_wp2_with (first|((with_reducible refine gate_callee (f:=63) rfl ?_);(try (refine gate_guard (by rfl) ?_;dsimp only));refine goesL_ (some 41) rfl rfl Tryz.func63 (by kernel_rfl) rfl #[.pointer (some ⟨gv,0,none⟩),.int .i64 (rd ps 1),.slice (some ⟨go,0,none⟩) n ck] rfl ml ?_;(with_reducible refine (IH.out k2 (by have:=HK1.out;omega) (rd ps 1) kn2 qv _ HB.out BV.out HK.out HVF.out).mono ?_);rintro e w5 ⟨rfl,hk,hg,hb⟩;refine ⟨_,rfl,?_⟩;have HKb:=Aside0.mk hk;have HBb:=Aside0.mk hb;have BNb:=Aside0.mk (blk_grown BN.out hg (by intro e;injection e with e;exact NGN.out e));have BAb:=Aside0.mk (blk_grown BA.out hg (by intro e;injection e with e;exact NGA.out e));have BVb:=Aside0.mk (blk_grown BV.out hg (by intro e;injection e with e;exact NVG.out e));have HRb:=Aside0.mk (Kd.R_grown HR.out hg (fun k hk e=>hk (by injection e)));have HGb:=Aside0.mk (HG.out.trans hg);clear hk hg hb;obtain ⟨hcw0,hcw1,hcw2⟩:=c3_ BAb;have hfw0:=blk_frozen BAb.out 0;have hfw1:=blk_frozen BAb.out 1;have hfw2:=blk_frozen BAb.out 2));go_roundg k2
     case measure=>have:=HK1.out;omega
     case rel=>exact ⟨2,wd,x0,qv.1,x2,qv.2,(by first|rfl|(simp;done)),(by first|rfl|(simp;done)),H',⟨by have:=HK1.out;omega⟩,⟨blk_far BNb.out NE1 _⟩,⟨blk_put (cs:=#[.int .i64 x0,.int .i64 x1,.int .i64 x2]) BAb.out 1 _ rfl⟩,⟨Kd.R_set HRb.out BAb.out (by decide) 1 _⟩,⟨Kd.R_set HKb.out BAb.out (by decide) 1 _⟩,⟨gr_below HGb.out (Below.setCell (p:=⟨ga,1,none⟩) (Below.refl w.heap.size w5) GA.out _)⟩,⟨below_set HBb.out GA0.out⟩⟩
    rw [if_neg z1] at H
    by_cases z2:j=2
    ·subst z2;rw [if_pos rfl] at H;have d3n:decide (2 < ps.length)=true:=decide_eq_true (by have:=C3.out;omega);have H':=Aside0.mk H;rw [show ((2:Int)).toNat=2 from rfl,show ap.add 2=⟨ap.block,ap.off + 2,none⟩ from rfl] at hxp;clear H z0 z1;go_wp2_with (first|((with_reducible refine gate_callee (f:=63) rfl ?_);(try (refine gate_guard (by rfl) ?_;dsimp only));refine goesL_ (some 41) rfl rfl Tryz.func63 (by kernel_rfl) rfl #[.pointer (some ⟨gv,0,none⟩),.int .i64 (rd ps 2),.slice (some ⟨go,0,none⟩) n ck] rfl ml ?_;(with_reducible refine (IH.out k2 (by have:=HK1.out;omega) (rd ps 2) kn2 qv _ HB.out BV.out HK.out HVF.out).mono ?_);rintro e w5 ⟨rfl,hk,hg,hb⟩;refine ⟨_,rfl,?_⟩;have HKb:=Aside0.mk hk;have HBb:=Aside0.mk hb;have BNb:=Aside0.mk (blk_grown BN.out hg (by intro e;injection e with e;exact NGN.out e));have BAb:=Aside0.mk (blk_grown BA.out hg (by intro e;injection e with e;exact NGA.out e));have BVb:=Aside0.mk (blk_grown BV.out hg (by intro e;injection e with e;exact NVG.out e));have HRb:=Aside0.mk (Kd.R_grown HR.out hg (fun k hk e=>hk (by injection e)));have HGb:=Aside0.mk (HG.out.trans hg);clear hk hg hb;obtain ⟨hcw0,hcw1,hcw2⟩:=c3_ BAb;have hfw0:=blk_frozen BAb.out 0;have hfw1:=blk_frozen BAb.out 1;have hfw2:=blk_frozen BAb.out 2));go_roundg k2
     case measure=>have:=HK1.out;omega
     case rel=>exact ⟨3,wd,x0,x1,qv.1,qv.2,(by first|rfl|(simp;done)),(by first|rfl|(simp;done)),H',⟨by have:=HK1.out;omega⟩,⟨blk_far BNb.out NE1 _⟩,⟨blk_put (cs:=#[.int .i64 x0,.int .i64 x1,.int .i64 x2]) BAb.out 2 _ rfl⟩,⟨Kd.R_set HRb.out BAb.out (by decide) 2 _⟩,⟨Kd.R_set HKb.out BAb.out (by decide) 2 _⟩,⟨gr_below HGb.out (Below.setCell (p:=⟨ga,2,none⟩) (Below.refl w.heap.size w5) GA.out _)⟩,⟨below_set HBb.out GA0.out⟩⟩
    rw [if_neg z2] at H;cases H
   ·rw [if_neg c3] at H;have d3:decide (j < (ps.length:Int))=false:=decide_eq_false c3;clear c3;cases H;obtain ⟨hcn0,hcn1,hcn2,hcn3,hcn4,hcn5⟩:=c6_ BN;obtain ⟨hcw0,hcw1,hcw2⟩:=c3_ BA;have hfw0:=blk_frozen BA.out 0;have hfw1:=blk_frozen BA.out 1;have hfw2:=blk_frozen BA.out 2;go_wp2_with (first|((with_reducible refine gate_callee (f:=87) rfl ?_);(try (refine gate_guard (by rfl) ?_;dsimp only));refine goesL_ (some 64) rfl rfl Tryz.func87 (by kernel_rfl) rfl #[.agg #[.int .i64 (rd_T52 l i).f0,.int .i64 (rd_T52 l i).f1,.int .i64 (rd_T52 l i).f2,.int .i64 (rd_T52 l i).f3,.int .i64 (rd_T52 l i).f4,.int .i64 (rd_T52 l i).f5],.int .i64 wd',.int .i64 y0,.int .i64 y1,.int .i64 y2] rfl ml ?_;(with_reducible refine (impl_Apply.calls k1 (rd_T52 l i).f0 (rd_T52 l i).f1 (rd_T52 l i).f2 (rd_T52 l i).f3 (rd_T52 l i).f4 (rd_T52 l i).f5 wd' y0 y1 y2 v _ HAP.out).mono ?_);rintro e w6 ⟨rfl,hb⟩;refine ⟨_,rfl,?_⟩;have HKc:=Aside0.mk (Kd.R_below HK.out hb);have HBc:=Aside0.mk (below_step HB.out hb);have HGc:=Aside0.mk (gr_up HG.out hb);clear hb;obtain ⟨hk6,hf6⟩:=kn_get HKc.out i C1.out.1 C1.out.2;have c1:=eq_true C1.out.1;have c2:=eq_true C1.out.2;have d1:=decide_eq_true C1.out.1;have d2:=decide_eq_true C1.out.2));go_ret;exact ⟨rfl,(kn_put HKc.out i _).1,HGc.out.trans (kn_put HKc.out i _).2,below_set HBc.out GB.out⟩
theorem blank_calls (A:Option Addr) (n c:Nat) (xs:List Int) (gv:Nat) (w:World) (hbk:w.heap[gv]? = some (.cells (vcells A n c xs) 81 (0,0))) (hs:n≤35184372088832) :
  Calls Tryz.prog 64 #[.pointer (some ⟨gv,0,none⟩)] w fun e w'=>∃ v,e = .returned v∧Kd.R (Kd.int .i64) 3 w' w.heap.size (fun _=>True) v (List.replicate n (-1))∧Below w.heap.size w w':=by
 have BV:=Aside0.mk hbk;have SZ:=Aside0.mk hs;clear hbk hs;have hv0:=v_row BV.out
 go_enter Tryz.func64,Tryz.ntmps64
 go_wp2_with (first|((with_reducible refine gate_dst (N:=10) rfl ?_);refine Kd.R_make (Kd.int .i64) _ 3 rfl (N:=10) rfl 42 _ _ rfl (n:Int) rfl rfl Tryz.underlying42 (.int .i64 0) 8 info3 rfl (by decide) (by omega) 0 (ok:=fun _=>True) (okp:=fun _=>True) rfl (fun _ hk=>hk) trivial (by omega) (Nat.le_trans (Nat.mul_le_mul_right _ (by have:=SZ.out;omega:(n:Int).toNat≤35184372088832)) (by omega)) (Below.refl _ _) (Nat.le_refl _) ?_;intro v102 w4 ho5 hb hg_ hnew_;clear hg_ hnew_;rw [Int.toNat_natCast] at ho5;have HO:=Aside0.mk ho5;have HB:=Aside0.mk hb;clear ho5 hb;obtain ⟨Ab,cb,eb⟩:=Kd.R_slice HO.out;rw [List.length_replicate] at eb;subst eb))
 go_loopg [13] (n + 1) (fun kq v13 wr=>∃ (j:Nat) (kn:List Int),v13 = .int .i64 (j:Int)∧Aside0 (j≤n∧n - j < kq)∧Aside0 (kn.length=n∧∀ q,q < j→kn.getD q 0 = -1)∧Aside0 (Kd.R (Kd.int .i64) 3 wr w.heap.size (fun _=>True) (.slice Ab n cb) kn)∧Aside0 (Below w.heap.size w wr))
 case atStart=>exact ⟨0,_,rfl,⟨by omega⟩,⟨by simp,by intro q hq;omega⟩,HO,HB⟩
 case round =>
  clear HO HB hv0;obtain ⟨j,kn,rfl,HJ,HK,HO,HB⟩:=hrel
  by_cases c3:(j:Int) < (n:Int)
  ·cases gk with
   | zero=>exact absurd HJ.out.2 (by omega)
   | succ k1 =>
   obtain ⟨gb,cb2,eb,GB,GL,_,_⟩:=Kd.R_form HO.out (by have:=HK.out.1;omega);rw [HK.out.1] at eb;cases eb;have GB_:=Aside0.mk GB;clear GB GL;have d3:decide ((j:Int) < (n:Int))=true:=decide_eq_true c3;have q3:decide (j < n)=true:=decide_eq_true (by omega);have q3n:(j < n)=True:=eq_true (by omega);have C3:=Aside0.mk c3;replace c3:=eq_true c3;have c4:(0≤(j:Int))=True:=eq_true (by omega);have d4:decide (0≤(j:Int))=true:=decide_eq_true (by omega);obtain ⟨hk1,hf1⟩:=kn_get HO.out (j:Int) (by omega) C3.out;have hP:=Aside0.mk (kn_put HO.out (j:Int) (-1)).1;rw [Int.toNat_natCast] at hk1 hf1;go_wp2;go_roundg k1
   case measure=>omega
   case rel =>
    refine ⟨j + 1,kn.set j (-1),?_,⟨by have:=C3.out;have:=HJ.out;omega⟩,⟨by simpa using HK.out.1,?_⟩,?_,⟨below_set HB.out GB_.out⟩⟩
    ·rw [show wrap64 ((j:Int) + 1)=((j + 1:Nat):Int) from by have:=C3.out;have:=SZ.out;unfold wrap64;omega]
    ·intro q hq;have h1:=HK.out.1;have h2:=C3.out
     by_cases hqj:q=j
     ·subst hqj
      simp [List.getD_eq_getElem?_getD,show q < kn.length by omega]
     ·have h3:=HK.out.2 q (by omega);rw [List.getD_eq_getElem?_getD] at h3 ⊢;rw [List.getElem?_set_ne (fun e=>hqj e.symm)];exact h3
    ·exact ⟨by have:=hP.out;rw [Int.toNat_natCast] at this;exact this⟩
  ·have d3:decide ((j:Int) < (n:Int))=false:=decide_eq_false c3;have q3:decide (j < n)=false:=decide_eq_false (by omega);have q3n:(j < n)=False:=eq_false (by omega)
   have e:kn=List.replicate n (-1):=by
    apply List.ext_getElem (by simpa using HK.out.1)
    intro q h1 h2;have h3:=HK.out.2 q (by have:=HJ.out;simp at h2;omega);rw [List.getD_eq_getElem?_getD,List.getElem?_eq_getElem h1] at h3
    simpa using h3
   subst e;replace c3:=eq_false c3;go_wp2;go_ret;exact ⟨_,rfl,HO.out,HB.out⟩
section
variable {W:World} {go ck b n:Nat} {kn:List Int} {ok:Nat→Prop}
theorem bt_get (h:Kd.R (Kd.int .u8) 5 W b ok (.slice (some ⟨go,0,none⟩) n ck) kn) (i:Int) (h0:0≤i) (h1:i < n):W.cell? ⟨go,i.toNat,none⟩=some (.int .u8 (rd kn i))∧W.frozen? ⟨go,i.toNat,none⟩=false:=Kd.R_celln (0:Int) h i h0 h1
theorem bt_put (h:Kd.R (Kd.int .u8) 5 W b ok (.slice (some ⟨go,0,none⟩) n ck) kn) (i:Int) (v:Int):Kd.R (Kd.int .u8) 5 (W.setCell ⟨go,i.toNat,none⟩ (.int .u8 v)) b ok (.slice (some ⟨go,0,none⟩) n ck) (kn.set i.toNat v)∧W.grownBy (W.setCell ⟨go,i.toNat,none⟩ (.int .u8 v)) (some go):=Kd.R_putg h i v
end
def taI:Nat→List S31→Int→Int→Int→List Int→Option (List Int)
 | 0,_,_,_,_,_=>none
 | k + 1,l0,t,q,at_,xs=>if q < (l0.length:Int) then (if 0≤q then (if 0≤(rd_T31 l0 q).f1∧(rd_T31 l0 q).f1 < (xs.length:Int) then (if 0≤IntKind.u64.wrap (wrap64 (at_ - (rd_T31 l0 q).f2)) then (impl_cut.f (rd_T31 l0 q).f2 (shr .i64 t (IntKind.u64.wrap (wrap64 (at_ - (rd_T31 l0 q).f2))))).bind fun v=>taI k l0 t (wrap64 (q + 1)) (wrap64 (at_ - (rd_T31 l0 q).f2)) (xs.set (rd_T31 l0 q).f1.toNat v) else none) else none) else none) else some xs
def taO (l0:List S31) (l1:List S52) (n:Int):Nat→Int→List Int→List Int→Option (List Int)
 | 0,_,_,_=>none
 | k + 1,t,vals,xs=>if t < (vals.length:Int) then (if 0≤t then (taI k l0 t 0 n xs).bind fun xs'=>(vaF k l1 xs' (wrap64 ((l1.length:Int) - 1)) (List.replicate l1.length (-1))).bind fun q=>(impl_sign.f q.1).bind fun s=>taO l0 l1 n k (wrap64 (t + 1)) (vals.set t.toNat s) xs' else none) else some vals
def impl_TableOf.f (k:Nat) (l0:List S31) (l1:List S52):Option (Int × ByteArray × Bool):=(impl_frontBits.f k l0).bind fun n=>if n < 0 then some (0,(⟨#[]⟩:ByteArray),false) else (impl_FrontOk.f k l0 l1).bind fun t=>if t=true then (if 0 < l1.length∧l1.length≤35184372088832 then (if 0≤IntKind.u64.wrap n then (if 0≤(wrap64 (2 ^ min (IntKind.u64.wrap n).toNat 64))∧(wrap64 (2 ^ min (IntKind.u64.wrap n).toNat 64)).toNat≤281474976710656 then (taO l0 l1 n k 0 (List.replicate (wrap64 (2 ^ min (IntKind.u64.wrap n).toNat 64)).toNat 0) (List.replicate 8 0)).bind fun vals=>some (n,strOfNums vals,true) else none) else none) else none) else some (0,(⟨#[]⟩:ByteArray),false)
theorem impl_TableOf.calls (k:Nat) (A0:Option Addr) (c0:Nat) (l0:List (S31)) (A1:Option Addr) (c1:Nat) (l1:List (S52)) (r1:Int) (r2:ByteArray) (r3:Bool) (w:World) (hr0:Kd.C k31 w A0 l0.length l0) (hc0:l0.length≤c0) (hr1:Kd.C k52 w A1 l1.length l1) (hc1:l1.length≤c1) (h:impl_TableOf.f k l0 l1=some (r1,r2,r3)) :
  Calls Tryz.prog 30 #[.slice A0 l0.length c0,.slice A1 l1.length c1] w fun e w'=>e = .returned (.tuple #[.agg #[.int .i64 r1,.string r2],.bool r3])∧Below w.heap.size w w':=by
 have HR0:=Aside0.mk hr0;have HC0:=Aside0.mk hc0;have HR1:=Aside0.mk hr1;have HC1:=Aside0.mk hc1;clear hr0 hc0 hr1 hc1;unfold impl_TableOf.f at h;obtain ⟨n,hn,h⟩:=Option.bind_eq_some_iff.1 h;have HB_:=Aside0.mk hn;clear hn
 by_cases c1_:n < 0
 ·rw [if_pos c1_] at h;have d1:decide (n < 0)=true:=decide_eq_true c1_;clear c1_;simp only [Option.some.injEq,Prod.mk.injEq] at h;obtain ⟨rfl,rfl,rfl⟩:=h
  go_enter Tryz.func30,Tryz.ntmps30
  go_wp2_with (first|((with_reducible refine gate_dst (N:=4) rfl ?_);refine bx (N:=4) (cs:=#[.int .i64 0,.string (⟨#[]⟩:ByteArray)]) (t:=57) ?_;intro gr hg w1 hbox hb;have BR1:=Aside0.mk hbox;have HX1:=Aside0.mk hb;have GR:=Aside0.mk (show w.heap.size≤gr by rw [hg];exact Nat.le_refl _);clear hg hbox hb)|((with_reducible refine gate_callee (f:=36) rfl ?_);(try (refine gate_guard (by rfl) ?_;dsimp only));refine goesL_ (some 14) rfl rfl Tryz.func36 (by kernel_rfl) rfl #[.slice A0 l0.length c0] rfl ml ?_;(with_reducible refine (impl_frontBits.calls k A0 c0 l0 n _ (Kd.C_below HR0.out HX1.out) HC0.out HB_.out).mono ?_);rintro e w2 ⟨rfl,hb⟩;refine ⟨_,rfl,?_⟩;have HX2:=Aside0.mk (below_step HX1.out hb);have BR2:=Aside0.mk (blk_below BR1.out hb);clear hb;have hr0:=(blk_cell BR2.out 0).trans rfl;have hr1:=(blk_cell BR2.out 1).trans rfl;have hs0:=blk_frozen BR2.out 0;have hs1:=blk_frozen BR2.out 1));refine bodyPost_ret (results_ct rfl _ _ gr 57 #[.int .i64 0,.string (⟨#[]⟩:ByteArray)] (0,0) _ rfl (by refine blk_put (cs:=#[.int .i64 0,.string (⟨#[]⟩:ByteArray)]) ?_ 1 _ rfl;refine blk_put (cs:=#[.int .i64 0,.string (⟨#[]⟩:ByteArray)]) ?_ 0 _ rfl;exact BR2.out) Tryz.underlying57 rfl (by kernel_rfl)) rfl ?_;exact ⟨rfl,below_set (below_set HX2.out GR.out) GR.out⟩
 rw [if_neg c1_] at h;have d1:decide (n < 0)=false:=decide_eq_false c1_;clear c1_;obtain ⟨t,ht,h⟩:=Option.bind_eq_some_iff.1 h;have HF_:=Aside0.mk ht;clear ht
 cases t with
 | false =>
  rw [if_neg (by decide)] at h;simp only [Option.some.injEq,Prod.mk.injEq] at h;obtain ⟨rfl,rfl,rfl⟩:=h
  go_enter Tryz.func30,Tryz.ntmps30
  go_wp2_with (first|((with_reducible refine gate_dst (N:=4) rfl ?_);refine bx (N:=4) (cs:=#[.int .i64 0,.string (⟨#[]⟩:ByteArray)]) (t:=57) ?_;intro gr hg w1 hbox hb;have BR1:=Aside0.mk hbox;have HX1:=Aside0.mk hb;have GR:=Aside0.mk (show w.heap.size≤gr by rw [hg];exact Nat.le_refl _);clear hg hbox hb)|((with_reducible refine gate_callee (f:=36) rfl ?_);(try (refine gate_guard (by rfl) ?_;dsimp only));refine goesL_ (some 14) rfl rfl Tryz.func36 (by kernel_rfl) rfl #[.slice A0 l0.length c0] rfl ml ?_;(with_reducible refine (impl_frontBits.calls k A0 c0 l0 n _ (Kd.C_below HR0.out HX1.out) HC0.out HB_.out).mono ?_);rintro e w2 ⟨rfl,hb⟩;refine ⟨_,rfl,?_⟩;have HX2:=Aside0.mk (below_step HX1.out hb);have BR2:=Aside0.mk (blk_below BR1.out hb);clear hb;have hr0:=(blk_cell BR2.out 0).trans rfl;have hr1:=(blk_cell BR2.out 1).trans rfl;have hs0:=blk_frozen BR2.out 0;have hs1:=blk_frozen BR2.out 1)|((with_reducible refine gate_callee (f:=13) rfl ?_);(try (refine gate_guard (by rfl) ?_;dsimp only));refine goesL_ (some 20) rfl rfl Tryz.func13 (by kernel_rfl) rfl #[.slice A0 l0.length c0,.slice A1 l1.length c1] rfl ml ?_;(with_reducible refine (impl_FrontOk.calls k A0 c0 l0 A1 c1 l1 false _ (Kd.C_below HR0.out HX2.out) HC0.out (Kd.C_below HR1.out HX2.out) HC1.out HF_.out).mono ?_);rintro e w3 ⟨rfl,hb⟩;refine ⟨_,rfl,?_⟩;have HX3:=Aside0.mk (below_step HX2.out hb);have BR3:=Aside0.mk (blk_below BR2.out hb);clear hb hr0 hr1 hs0 hs1;have hr0:=(blk_cell BR3.out 0).trans rfl;have hr1:=(blk_cell BR3.out 1).trans rfl;have hs0:=blk_frozen BR3.out 0;have hs1:=blk_frozen BR3.out 1));refine bodyPost_ret (results_ct rfl _ _ gr 57 #[.int .i64 0,.string (⟨#[]⟩:ByteArray)] (0,0) _ rfl (by refine blk_put (cs:=#[.int .i64 0,.string (⟨#[]⟩:ByteArray)]) ?_ 1 _ rfl;refine blk_put (cs:=#[.int .i64 0,.string (⟨#[]⟩:ByteArray)]) ?_ 0 _ rfl;exact BR3.out) Tryz.underlying57 rfl (by kernel_rfl)) rfl ?_;exact ⟨rfl,below_set (below_set HX3.out GR.out) GR.out⟩
 | true =>
 rw [if_pos rfl] at h
 by_cases cx2:0 < l1.length∧l1.length≤35184372088832
 case neg=>rw [if_neg cx2] at h;cases h
 rw [if_pos cx2] at h;have SZ:=Aside0.mk cx2;clear cx2
 by_cases c3:0≤IntKind.u64.wrap n
 case neg=>rw [if_neg c3] at h;cases h
 rw [if_pos c3] at h;have d3:decide (0≤IntKind.u64.wrap n)=true:=decide_eq_true c3;replace c3:=eq_true c3
 by_cases c4:0≤(wrap64 (2 ^ min (IntKind.u64.wrap n).toNat 64))∧(wrap64 (2 ^ min (IntKind.u64.wrap n).toNat 64)).toNat≤281474976710656
 case neg=>rw [if_neg c4] at h;cases h
 rw [if_pos c4] at h;have CS:=Aside0.mk c4;clear c4;obtain ⟨vs,hv,h⟩:=Option.bind_eq_some_iff.1 h;have HTO:=Aside0.mk hv;clear hv;simp only [Option.some.injEq,Prod.mk.injEq] at h;obtain ⟨rfl,rfl,rfl⟩:=h
 go_enter Tryz.func30,Tryz.ntmps30
 go_wp2_with (first|((with_reducible refine gate_dst (N:=4) rfl ?_);refine bx (N:=4) (cs:=#[.int .i64 0,.string (⟨#[]⟩:ByteArray)]) (t:=57) ?_;intro gr hg w1 hbox hb;have BR1:=Aside0.mk hbox;have HX1:=Aside0.mk hb;have GR:=Aside0.mk (show w.heap.size≤gr by rw [hg];exact Nat.le_refl _);clear hg hbox hb)|((with_reducible refine gate_callee (f:=36) rfl ?_);(try (refine gate_guard (by rfl) ?_;dsimp only));refine goesL_ (some 14) rfl rfl Tryz.func36 (by kernel_rfl) rfl #[.slice A0 l0.length c0] rfl ml ?_;(with_reducible refine (impl_frontBits.calls k A0 c0 l0 n _ (Kd.C_below HR0.out HX1.out) HC0.out HB_.out).mono ?_);rintro e w2 ⟨rfl,hb⟩;refine ⟨_,rfl,?_⟩;have HX2:=Aside0.mk (below_step HX1.out hb);have BR2:=Aside0.mk (blk_below BR1.out hb);clear hb;have hr0:=(blk_cell BR2.out 0).trans rfl;have hr1:=(blk_cell BR2.out 1).trans rfl;have hs0:=blk_frozen BR2.out 0;have hs1:=blk_frozen BR2.out 1)|((with_reducible refine gate_callee (f:=13) rfl ?_);(try (refine gate_guard (by rfl) ?_;dsimp only));refine goesL_ (some 20) rfl rfl Tryz.func13 (by kernel_rfl) rfl #[.slice A0 l0.length c0,.slice A1 l1.length c1] rfl ml ?_;(with_reducible refine (impl_FrontOk.calls k A0 c0 l0 A1 c1 l1 true _ (Kd.C_below HR0.out HX2.out) HC0.out (Kd.C_below HR1.out HX2.out) HC1.out HF_.out).mono ?_);rintro e w3 ⟨rfl,hb⟩;refine ⟨_,rfl,?_⟩;have HX3:=Aside0.mk (below_step HX2.out hb);have BR3:=Aside0.mk (blk_below BR2.out hb);clear hb hr0 hr1 hs0 hs1;have hr0:=(blk_cell BR3.out 0).trans rfl;have hr1:=(blk_cell BR3.out 1).trans rfl;have hs0:=blk_frozen BR3.out 0;have hs1:=blk_frozen BR3.out 1)|((with_reducible refine gate_dst (N:=26) rfl ?_);refine bx (N:=26) (cs:=#[.slice A1 l1.length c1,.int .i64 0,.int .i64 0,.int .i64 0,.int .i64 0,.int .i64 0,.int .i64 0,.int .i64 0,.int .i64 0]) (t:=81) ?_;intro gv hg w4 hbox hb;have BV4:Aside0 (w4.heap[gv]? = some (.cells (vcells A1 l1.length c1 (List.replicate 8 0)) 81 (0,0))):=⟨hbox⟩;have HX4:=Aside0.mk (below_step HX3.out hb);have GV:=Aside0.mk (show w.heap.size≤gv by rw [hg];exact HX3.out.size);have BR4:=Aside0.mk (blk_below BR3.out hb);have NRV:=Aside0.mk (show gr≠gv by rw [hg];exact Nat.ne_of_lt (blk_lt BR3.out));clear hr0 hr1 hs0 hs1;clear hg hbox hb)|((with_reducible refine gate_dst (N:=30) rfl ?_);refine Kd.R_make (Kd.int .u8) _ 5 rfl (N:=30) rfl 22 _ _ rfl (wrap64 (2 ^ min (IntKind.u64.wrap n).toNat 64)) rfl rfl Tryz.underlying22 (.int .u8 0) 1 infoU8 rfl (by decide) (by omega) 0 (ok:=fun _=>True) (okp:=fun _=>True) rfl (fun _ hk=>hk) trivial CS.out.1 (Nat.le_trans (Nat.mul_le_mul_right _ CS.out.2) (by omega)) (Below.refl _ _) (Nat.le_refl _) ?_;intro v102 w5 ho5 hb hg_ hnew_;clear hg_ hnew_;generalize hm_:Int.toNat (wrap64 (2 ^ min (IntKind.u64.wrap n).toNat 64))=m at ho5;have HM:=Aside0.mk hm_;clear hm_;have HO5:=Aside0.mk (Kd.R_lower ho5 HX4.out.size);have HX5:=Aside0.mk (below_step HX4.out hb);have BV5:=Aside0.mk (blk_below BV4.out hb);have BR5:=Aside0.mk (blk_below BR4.out hb);clear ho5 hb;obtain ⟨Av,cv,eb⟩:=Kd.R_slice HO5.out;rw [List.length_replicate] at eb;subst eb))
 go_loopg [33] k (fun kq v33 wr=>∃ (t:Int) (vals xs:List Int),v33 = .int .i64 t∧Aside0 (taO l0 l1 n kq t vals xs=some vs)∧Aside0 (kq≤k)∧Aside0 (xs.length=8)∧Aside0 (vals.length=m)∧Aside0 (Kd.R (Kd.int .u8) 5 wr w.heap.size (fun _=>True) (.slice Av m cv) vals)∧Aside0 (wr.heap[gv]? = some (.cells (vcells A1 l1.length c1 xs) 81 (0,0)))∧Aside0 (wr.heap[gr]? = some (.cells #[.int .i64 0,.string (⟨#[]⟩:ByteArray)] 57 (0,0)))∧Aside0 (Below w.heap.size w wr))
 case atStart=>exact ⟨0,_,_,rfl,⟨HTO.out⟩,⟨Nat.le_refl _⟩,⟨List.length_replicate⟩,⟨by rw [List.length_replicate];exact HM.out⟩,⟨by rw [HM.out];exact HO5.out⟩,BV5,BR5,HX5⟩
 case round =>
  clear HTO HO5 BV5 BR5 HX5 d1;obtain ⟨t,vals,xs,rfl,HA,HK1,X8_,HVL,HO,BV,BR,HB⟩:=hrel
  cases gk with
  | zero=>exact absurd HA.out (by simp [taO])
  | succ k1 =>
   have H:=HA.out;clear HA;simp only [taO] at H;rw [HVL.out] at H
   by_cases c4:t < (m:Int)
   ·rw [if_pos c4] at H
    by_cases c5:0≤t
    case neg=>rw [if_neg c5] at H;cases H
    rw [if_pos c5] at H;have C3:=Aside0.mk c4;have C4:=Aside0.mk c5;obtain ⟨gb,cb2,eb,GB,GL,_,_⟩:=Kd.R_form HO.out (by have:=HVL.out;omega);rw [HVL.out] at eb
    injection eb with ea_ en_ ec_
    subst ea_;subst ec_;clear en_;have GB_:=Aside0.mk GB
    have NVB:=Aside0.mk (show gv≠gb from fun e=>by
     obtain ⟨cs,hcs⟩:=Kd.R_typed HO.out gb rfl;rw [← e,BV.out] at hcs
     simp at hcs)
    have NRB:=Aside0.mk (show gr≠gb from fun e=>by
     obtain ⟨cs,hcs⟩:=Kd.R_typed HO.out gb rfl;rw [← e,BR.out] at hcs
     simp at hcs)
    clear GB GL;obtain ⟨xs',hti,H⟩:=Option.bind_eq_some_iff.1 H;obtain ⟨qv,hva,H⟩:=Option.bind_eq_some_iff.1 H;obtain ⟨sv,hsv,H⟩:=Option.bind_eq_some_iff.1 H;have HTI:=Aside0.mk hti;have HVF:=Aside0.mk hva;have HSV:=Aside0.mk hsv;have H':=Aside0.mk H;clear hti hva hsv H;have d4:decide (t < (m:Int))=true:=decide_eq_true c4;have d5:decide (0≤t)=true:=decide_eq_true c5;replace c4:=eq_true c4;replace c5:=eq_true c5;go_wp2
    go_loopg [10,39] k1 (fun kp v10 v39 wr=>∃ (at_ q:Int) (xs:List Int),v10 = .int .i64 at_∧v39 = .int .i64 q∧Aside0 (taI kp l0 t q at_ xs=some xs')∧Aside0 (kp≤k1)∧Aside0 (xs.length=8)∧Aside0 (Kd.R (Kd.int .u8) 5 wr w.heap.size (fun _=>True) (.slice (some ⟨gb,0,none⟩) m cv) vals)∧Aside0 (wr.heap[gv]? = some (.cells (vcells A1 l1.length c1 xs) 81 (0,0)))∧Aside0 (wr.heap[gr]? = some (.cells #[.int .i64 0,.string (⟨#[]⟩:ByteArray)] 57 (0,0)))∧Aside0 (Below w.heap.size w wr))
    case atStart=>exact ⟨n,0,xs,rfl,rfl,HTI,⟨Nat.le_refl _⟩,X8_,HO,BV,BR,HB⟩
    case round =>
     clear HTI X8_ HO BV BR HB;obtain ⟨at_,q,xs,rfl,rfl,HA,HK2,X8,HO,BV,BR,HB⟩:=hrel
     cases gk with
     | zero=>exact absurd HA.out (by simp [taI])
     | succ k2 =>
      have H:=HA.out;clear HA;simp only [taI] at H
      by_cases c6:q < (l0.length:Int)
      ·rw [if_pos c6] at H
       by_cases c7:0≤q
       case neg=>rw [if_neg c7] at H;cases H
       rw [if_pos c7] at H
       by_cases c8:0≤(rd_T31 l0 q).f1∧(rd_T31 l0 q).f1 < (xs.length:Int)
       case neg=>rw [if_neg c8] at H;cases H
       rw [if_pos c8] at H
       by_cases c10:0≤IntKind.u64.wrap (wrap64 (at_ - (rd_T31 l0 q).f2))
       case neg=>rw [if_neg c10] at H;cases H
       rw [if_pos c10] at H;obtain ⟨v,hcu,H⟩:=Option.bind_eq_some_iff.1 H;have HCU:=Aside0.mk hcu;have HI:=Aside0.mk H;clear hcu H;obtain ⟨ad,e_,hx0,hx1,hx2⟩:=at_T31 HR0.out q c7 c6;cases e_;replace hx0:=ct HB hx0;replace hx1:=ct HB hx1;replace hx2:=ct HB hx2;have C8:=Aside0.mk c8;obtain ⟨c8,c9⟩:=c8;rw [X8.out] at c9;have d6:decide (q < (l0.length:Int))=true:=decide_eq_true c6;have d7:decide (0≤q)=true:=decide_eq_true c7;have d10:decide (0≤IntKind.u64.wrap (wrap64 (at_ - (rd_T31 l0 q).f2)))=true:=decide_eq_true c10;replace c6:=eq_true c6;replace c7:=eq_true c7;replace c8:=eq_true c8;replace c9:((rd_T31 l0 q).f1 < 8)=True:=eq_true c9;replace c10:=eq_true c10;go_wp2_with (first|((with_reducible refine gate_dst (N:=12) rfl ?_);refine bx (N:=12) (cs:=#[.bool false,.int .i64 0,.int .i64 0]) (t:=31) ?_;intro gq hg w6 hbox hb;have BQ0:=Aside0.mk hbox;have HQ0:=Aside0.mk hb;have GQ:=Aside0.mk (show wr.heap.size≤gq by rw [hg];exact Nat.le_refl _);have hz0:w6.cell? ⟨gq,0,none⟩=some (.bool false):=(blk_cell BQ0.out 0).trans rfl;have hfz0:=blk_frozen BQ0.out 0;have hz1:w6.cell? ⟨gq,1,none⟩=some (.int .i64 0):=(blk_cell BQ0.out 1).trans rfl;have hfz1:=blk_frozen BQ0.out 1;have hz2:w6.cell? ⟨gq,2,none⟩=some (.int .i64 0):=(blk_cell BQ0.out 2).trans rfl;have hfz2:=blk_frozen BQ0.out 2;clear hg hbox hb));have hb6:Below wr.heap.size wr (((w6.setCell ⟨gq,0,none⟩ (.bool (rd_T31 l0 q).f0)).setCell ⟨gq,1,none⟩ (.int .i64 (rd_T31 l0 q).f1)).setCell ⟨gq,2,none⟩ (.int .i64 (rd_T31 l0 q).f2)):=below_set (below_set (below_set (HQ0.out) GQ.out) GQ.out) GQ.out;have BQ:Aside0 ((((w6.setCell ⟨gq,0,none⟩ (.bool (rd_T31 l0 q).f0)).setCell ⟨gq,1,none⟩ (.int .i64 (rd_T31 l0 q).f1)).setCell ⟨gq,2,none⟩ (.int .i64 (rd_T31 l0 q).f2)).heap[gq]? = some (.cells #[.bool (rd_T31 l0 q).f0,.int .i64 (rd_T31 l0 q).f1,.int .i64 (rd_T31 l0 q).f2] 31 (0,0))):=⟨blk_put (cs:=#[.bool (rd_T31 l0 q).f0,.int .i64 (rd_T31 l0 q).f1,.int .i64 0]) (blk_put (cs:=#[.bool (rd_T31 l0 q).f0,.int .i64 0,.int .i64 0]) (blk_put (cs:=#[.bool false,.int .i64 0,.int .i64 0]) (BQ0.out) 0 (.bool (rd_T31 l0 q).f0) rfl) 1 (.int .i64 (rd_T31 l0 q).f1) rfl) 2 (.int .i64 (rd_T31 l0 q).f2) rfl⟩;clear hz0 hz1 hz2 hfz0 hfz1 hfz2 BQ0 HQ0;generalize (((w6.setCell ⟨gq,0,none⟩ (.bool (rd_T31 l0 q).f0)).setCell ⟨gq,1,none⟩ (.int .i64 (rd_T31 l0 q).f1)).setCell ⟨gq,2,none⟩ (.int .i64 (rd_T31 l0 q).f2))=w7 at BQ hb6 ⊢;replace hb6:=below_drew1 hb6;replace BQ:=Aside0.mk (blk_drew BQ.out);have BV8:=Aside0.mk (blk_below BV.out hb6);have BR8:=Aside0.mk (blk_below BR.out hb6);have A2:=Aside0.mk (Kd.R_below HO.out hb6);have HB8:=Aside0.mk (below_step HB.out hb6);clear hb6;refine start_ (n:=14) (S:=fun w'=>w'.cell? ⟨gq,0,none⟩=some (.bool (rd_T31 l0 q).f0)∧w'.cell? ⟨gq,1,none⟩=some (.int .i64 (rd_T31 l0 q).f1)∧w'.cell? ⟨gq,2,none⟩=some (.int .i64 (rd_T31 l0 q).f2)) (ds:=[13]) (tf 0 14) (by kernel_rfl) rfl rfl ⟨(blk_cell BQ.out 0).trans rfl,(blk_cell BQ.out 1).trans rfl,(blk_cell BQ.out 2).trans rfl⟩ (fun hHeld=>?_);generalize w7.drew=w8 at BQ BV8 BR8 A2 HB8 hHeld ⊢;refine pv 0 47 (tf 1 13) ?_;refine pv 1 48 (tf 2 12) ?_;refine pv 3 50 #[true,true,false,true,false,false,false,false,false,false,false,false,false,false] ?_;refine pv 5 52 #[true,true,false,true,false,true,false,false,false,false,false,false,false,false] ?_;refine pv 6 53 #[true,true,false,true,false,true,true,false,false,false,false,false,false,false] ?_;refine pv 7 54 #[true,true,false,true,false,true,true,true,false,false,false,false,false,false] ?_;refine pv 8 55 #[true,true,false,true,false,true,true,true,true,false,false,false,false,false] ?_
       refine pv 10 57 #[true,true,false,true,false,true,true,true,true,false,true,false,false,false] ?_;refine pv 11 58 #[true,true,false,true,false,true,true,true,true,false,true,true,false,false] ?_;refine tv 2 49 #[true,true,true,true,false,true,true,true,true,false,true,true,false,false] hHeld ?_;refine tv 4 51 #[true,true,true,true,true,true,true,true,true,false,true,true,false,false] hHeld ?_;refine one_ (i:=9) (N:=some 56) (tf 12 2) rfl rfl (by kernel_rfl) (by decide) (fun K hK=>?_);refine goes_ Tryz.func61 (by kernel_rfl) rfl #[.int .i64 (rd_T31 l0 q).f2,.int .i64 (shr .i64 t (IntKind.u64.wrap (wrap64 (at_ - (rd_T31 l0 q).f2))))] (by rfl) rfl rfl (by simp only [List.map_toArray,List.map_cons,List.map_nil];rfl) ?_
       with_reducible refine (impl_cut.calls _ _ v _ HCU.out).mono ?_
       rintro e w9 ⟨rfl,hd⟩;refine ⟨_,rfl,?_⟩
       have hb:Below w8.heap.size w8 w9:=by obtain ⟨nd,rfl⟩:=hd;exact pw_below_drewN (Below.refl _ _) _
       have BQ9:=Aside0.mk (blk_below BQ.out hb);have BV9:=Aside0.mk (blk_below BV8.out hb);have BR9:=Aside0.mk (blk_below BR8.out hb);have HO9:=Aside0.mk (Kd.R_below A2.out hb);have HB9:=Aside0.mk (below_step HB8.out hb);clear hb hd;have hcv9:=v_cell BV9.out _ C8.out.1 C8.out.2;have hfv9:=blk_frozen BV9.out (1 + (rd_T31 l0 q).f1.toNat);refine hK.out _ _ ⟨(blk_cell BQ9.out 0).trans rfl,(blk_cell BQ9.out 1).trans rfl,(blk_cell BQ9.out 2).trans rfl⟩ (fun hHeld=>?_);clear hK K;refine norm_ (a':=?_) ?_ ?_;rotate_left
       ·show Act.put _ (some 56) _=_
        simp only [Act.put,s1,s2,s3,i64_w,i32_w];rfl
       refine pv 12 59 (tf 13 1) ?_;refine last_ (i:=13) (N:=none) (tf 14 0) rfl rfl (by kernel_rfl) (by decide) (fun K hK=>?_);refine skip_ (w1:=?_) (by rfl) rfl ?_ ?_;rotate_left
       ·go_simp;rfl
       refine hK.out _ _ ?_;clear hK K;refine done_ (by kernel_rfl) ?_;go_wp2;go_roundg k2
       case measure=>have:=HK2.out;omega
       case rel=>exact ⟨(wrap64 (at_ - (rd_T31 l0 q).f2)),wrap64 (q + 1),_,(by first|rfl|(simp;done)),(by first|rfl|(simp;done)),HI,⟨by have:=HK2.out;omega⟩,⟨by rw [List.length_set];exact X8.out⟩,⟨Kd.R_set HO9.out BV9.out (by decide) _ _⟩,⟨v_put BV9.out _ _⟩,⟨blk_far BR9.out (NRV.out) _⟩,⟨below_set HB9.out GV.out⟩⟩
      ·rw [if_neg c6] at H;have d6:decide (q < (l0.length:Int))=false:=decide_eq_false c6;clear c6;obtain rfl:=os H;clear H;go_wp2_with (first|((with_reducible refine gate_callee (f:=64) rfl ?_);(try (refine gate_guard (by rfl) ?_;dsimp only));refine goesL_ (some 68) rfl rfl Tryz.func64 (by kernel_rfl) rfl #[.pointer (some ⟨gv,0,none⟩)] rfl ml ?_;(with_reducible refine (blank_calls A1 l1.length c1 xs gv _ BV.out SZ.out.2).mono ?_);rintro e w7 ⟨v_,rfl,ho,hb⟩;refine ⟨_,rfl,?_⟩;obtain ⟨go,cb,eb,GO,GL,_⟩:=Kd.R_form ho (by have:=SZ.out;simp;omega);rw [List.length_replicate] at eb;subst eb;have HK7:=Aside0.mk ho;have HB7:=Aside0.mk hb;clear ho hb GO GL)|((with_reducible refine gate_callee (f:=63) rfl ?_);(try (refine gate_guard (by rfl) ?_;dsimp only));refine goesL_ (some 69) rfl rfl Tryz.func63 (by kernel_rfl) rfl #[.pointer (some ⟨gv,0,none⟩),.int .i64 (wrap64 ((l1.length:Int) - 1)),.slice (some ⟨go,0,none⟩) l1.length cb] rfl ml ?_;(with_reducible refine (value_calls l1 A1 c1 HC1.out xs X8.out wr (Kd.C_below HR1.out HB.out) gv go l1.length cb k1 (wrap64 ((l1.length:Int) - 1)) (List.replicate l1.length (-1)) qv _ HB7.out (blk_below BV.out HB7.out) HK7.out HVF.out).mono ?_);rintro e w8 ⟨rfl,hk,hg,hb⟩;refine ⟨_,rfl,?_⟩;have BV8:=Aside0.mk (blk_below BV.out hb);have BR8:=Aside0.mk (blk_below BR.out hb);have A2:=Aside0.mk (Kd.R_below HO.out hb);have HB8:=Aside0.mk (below_step HB.out hb);clear hk hg hb;obtain ⟨hv8,hf8⟩:=bt_get A2.out t C4.out C3.out;have hp8:=Aside0.mk (bt_put (Kd.R_drewN A2.out 1) t sv))|(go_at_call 62;(try simp only [i64_w,i32_w]);(with_reducible refine (impl_sign.calls qv.1 sv _ HSV.out).mono ?_);rintro e w' ⟨rfl,⟨nd,rfl⟩⟩));go_roundg k1
       case measure=>have:=HK1.out;omega
       case rel=>exact ⟨wrap64 (t + 1),_,xs,(by first|rfl|(simp;done)),H',⟨by have:=HK1.out;omega⟩,X8,⟨by rw [List.length_set];exact HVL.out⟩,⟨(bt_put (Kd.R_drewN A2.out _) t sv).1⟩,⟨blk_far (blk_drewN BV8.out _) (NVB.out) _⟩,⟨blk_far (blk_drewN BR8.out _) (NRB.out) _⟩,⟨below_set (pw_below_drewN HB8.out _) GB_.out⟩⟩
   ·rw [if_neg c4] at H;have d4:decide (t < (m:Int))=false:=decide_eq_false c4;clear c4;obtain rfl:=os H;clear H;have hcv24:=own_string (P:=Tryz.prog) Tryz.underlying22 Tryz.underlying5 Tryz.underlying9 (Kd.own_of_R HO.out);have hr0:=(blk_cell BR.out 0).trans rfl;have hr1:=(blk_cell BR.out 1).trans rfl;have hs0:=blk_frozen BR.out 0;have hs1:=blk_frozen BR.out 1;go_wp2;refine bodyPost_ret (results_ct rfl _ _ gr 57 #[.int .i64 n,.string (strOfNums vals)] (0,0) _ rfl (by refine blk_put (cs:=#[.int .i64 n,.string (⟨#[]⟩:ByteArray)]) ?_ 1 _ rfl;refine blk_put (cs:=#[.int .i64 0,.string (⟨#[]⟩:ByteArray)]) ?_ 0 _ rfl;exact BR.out) Tryz.underlying57 rfl (by kernel_rfl)) rfl ?_;exact ⟨rfl,below_set (below_set HB.out GR.out) GR.out⟩
def impl_HoldsFront.f (k:Nat) (l0:List (S31)) (l1:List (S52)):Option (Int × Bool):=(impl_TableOf.f k l0 l1).bind fun bt101=>(if bt101.2.2=true then ((impl_Rows.f k l0).bind fun A9=>((impl_Decide.f k A9 bt101.1 bt101.2.1).bind fun bt108=>(some (bt108.1,bt108.2)))) else (some (0,false)))
def impl_HoldsFront.T4:Bool × List (List Nat × List Nat):=(true,[([],[]),([0],[0]),([],[]),([1,2,1],[1,2]),([3],[3]),([3],[3]),([4,3,0,1,2,3,4,5],[4]),([5,6,0,1,2,3,4,5,6],[5])])
def impl_HoldsFront.B4:List Nat:=[0,1,0,7,15,15,63,127]
theorem impl_HoldsFront.tab4:rtab .any (opsOf Tryz.f8 4)=impl_HoldsFront.T4:=by kernel_rfl
theorem impl_HoldsFront.bits4:waitsOk impl_HoldsFront.T4.2 impl_HoldsFront.B4=true:=by kernel_rfl
theorem impl_HoldsFront.calls (k:Nat) (A0:Option Addr) (c0:Nat) (l0:List (S31)) (A1:Option Addr) (c1:Nat) (l1:List (S52)) (r1:Int) (r2:Bool) (w:World) (hr0:Kd.C k31 w A0 l0.length l0) (hc0:l0.length≤c0) (hr1:Kd.C k52 w A1 l1.length l1) (hc1:l1.length≤c1) (h:impl_HoldsFront.f k l0 l1=some (r1,r2)) :
  Calls Tryz.prog 8 #[.slice A0 l0.length c0,.slice A1 l1.length c1] w fun e w'=>e = .returned (.tuple #[.int .i64 r1,.bool r2])∧Below w.heap.size w w':=by
 have hu57:=Tryz.underlying57;have HR0:=Aside0.mk hr0;have HC0:=Aside0.mk hc0;clear hr0 hc0;have HR1:=Aside0.mk hr1;have HC1:=Aside0.mk hc1;clear hr1 hc1;have HB:=Aside0.mk (Below.refl w.heap.size w);have H:((impl_TableOf.f k l0 l1).bind fun bt101=>(if bt101.2.2=true then ((impl_Rows.f k l0).bind fun A9=>((impl_Decide.f k A9 bt101.1 bt101.2.1).bind fun bt108=>(some (bt108.1,bt108.2)))) else (some (0,false))))=some (r1,r2):=h;clear h;replace H:=ob H;obtain ⟨⟨A7,A8,t103⟩,A30,H⟩:=H
 try dsimp only at H
 have A3:=Aside0.mk A30;clear A30
 by_cases c4:t103=true
 ·subst c4
  have H1:((impl_Rows.f k l0).bind fun A9=>((impl_Decide.f k A9 A7 A8).bind fun bt108=>(some (bt108.1,bt108.2))))=some (r1,r2):=by rw [if_pos rfl] at H;exact H
  clear H;have H:=H1;clear H1;replace H:=ob H;obtain ⟨A9,A50,H⟩:=H;replace H:((impl_Decide.f k A9 A7 A8).bind fun bt108=>(some (bt108.1,bt108.2)))=some (r1,r2):=H;have A5:=Aside0.mk A50;clear A50;replace H:=ob H;obtain ⟨⟨Ab,Ac⟩,A60,H⟩:=H;replace H:(some (Ab,Ac))=some (r1,r2):=H;have A6:=Aside0.mk A60;clear A60;simp only [Option.some.injEq,Prod.mk.injEq] at H;obtain ⟨rfl,rfl⟩:=H
  go_enter Tryz.func8,Tryz.ntmps8
  try go_wp2_with (first|((with_reducible refine gate_callee (f:=30) rfl ?_);refine goesL_ (some 11) rfl rfl Tryz.func30 (by kernel_rfl) rfl #[.slice A0 l0.length c0,.slice A1 l1.length c1] rfl ml ?_;(with_reducible refine (impl_TableOf.calls k _ _ l0 _ _ l1 A7 A8 true _ ?side1 ?side2 ?side3 ?side4 A3.out).mono ?_);(case side1=>exact cw HR0.out);(case side2=>exact HC0.out);(case side3=>exact cw HR1.out);(case side4=>exact HC1.out);rintro e w7 ⟨rfl,hb⟩;refine ⟨_,rfl,?_⟩;replace HB:=Aside0.mk (below_step (tb HB) hb);(try clear hb);(try clear hb2);(try clear hk);(try clear hi))|((with_reducible refine gate_dst (N:=6) rfl ?_);refine bx (N:=6) (cs:=#[.int .i64 0,.string (⟨#[]⟩:ByteArray)]) (t:=57) ?_;intro A4 hg w8 hbox hb;have A2:=Aside0.mk (hbox);have Ad:=Aside0.mk ((by rw [hg];exact (below_size (tb HB)):w.heap.size≤A4));have Ae:=Aside0.mk ((by rw [hg];exact (below_size (tb HB)):w.heap.size≤A4));replace HB:=Aside0.mk (below_step (tb HB) hb);clear hb hbox hg;have hcz9__:=c2_ A2;have hfz9__:=f_ A2))
  have n0_:Aside0 (((w8.setCell ⟨A4,0,none⟩ (.int .i64 A7)).setCell ⟨A4,1,none⟩ (.string A8)).heap[A4]? = some (.cells #[.int .i64 A7,.string A8] 57 (0,0))):=⟨by (with_reducible repeat (first|refine blk_drewN ?_ _|refine blk_drew ?_|refine blk_alloc ?_ _));refine blk_put (cs:=#[.int .i64 A7,.string (⟨#[]⟩:ByteArray)]) ?_ 1 _ rfl;(with_reducible repeat (first|refine blk_drewN ?_ _|refine blk_drew ?_|refine blk_alloc ?_ _));refine blk_put (cs:=#[.int .i64 0,.string (⟨#[]⟩:ByteArray)]) ?_ 0 _ rfl;(with_reducible repeat (first|refine blk_drewN ?_ _|refine blk_drew ?_|refine blk_alloc ?_ _));exact A2.out⟩;have n1_:Aside0 (Below w.heap.size w ((w8.setCell ⟨A4,0,none⟩ (.int .i64 A7)).setCell ⟨A4,1,none⟩ (.string A8))):=⟨by exact tb HB⟩;(try clear A2);(try clear HB);generalize ((w8.setCell ⟨A4,0,none⟩ (.int .i64 A7)).setCell ⟨A4,1,none⟩ (.string A8))=w10 at n0_ n1_ ⊢;have A2:=n0_;have HB:=n1_;clear n0_ n1_;have n0_:=Aside0.mk (blk_drew A2.out);have n1_:=Aside0.mk (below_drew1 HB.out);clear A2;clear HB;have A2:=n0_;have HB:=n1_;clear n0_ n1_;refine start_ (n:=8) (S:=fun w'=>w'.cell? ⟨A4,0,none⟩=some (.int .i64 A7)∧w'.cell? ⟨A4,1,none⟩=some (.string A8)) (ds:=[]) (tf 0 8) (by kernel_rfl) rfl rfl ⟨(blk_cell A2.out 0).trans rfl,(blk_cell A2.out 1).trans rfl⟩ (fun hHeld=>?_);refine with_tabW impl_HoldsFront.tab4 impl_HoldsFront.bits4 (fun HT_ HW_=>?_);generalize w10.drew=w11 at A2 HB hHeld ⊢;refine pvT HT_ 0 16 (tf 1 7) ?_;refine tvT HT_ HW_ 2 18 #[true,false,true,false,false,false,false,false] hHeld ?_;refine one_ (i:=1) (N:=some 17) (tf 3 5) rfl rfl (one_of HT_.out (by kernel_rfl)) (by decide) (fun K hK=>?_);refine goes_ Tryz.func11 (by kernel_rfl) rfl #[.slice A0 l0.length c0] (by rfl) rfl rfl ml ?_
  with_reducible refine (impl_Rows.calls k _ _ l0 A9 _ ?side1 ?side2 A5.out).mono ?_
  (case side1=>exact cw (Kd.C_below HR0.out HB.out))
  (case side2=>exact HC0.out)
  rintro e w12 ⟨v106,rfl,ho0,hb⟩;refine ⟨_,rfl,?_⟩;have n0_:=Aside0.mk (Kd.R_lower ho0 (below_size (tb HB)));have n1_:=Aside0.mk (blk_below (g:=A4) (o := .cells #[.int .i64 A7,.string A8] 57 (0,0)) (dr A2) hb);have n2_:=Aside0.mk (below_step (tb HB) hb);clear A2;clear HB;have Aa:=n0_;have A2:=n1_;have HB:=n2_;clear n0_ n1_ n2_;(try clear hb);(try clear hb2);(try clear hk);(try clear hi);(try clear ho0);obtain ⟨Ao13,co13,eo13⟩:=Kd.R_slice Aa.out;(first|subst eo13|(injection eo13 with f1_ f2_ f3_;have f4_:=f1_.symm;have f5_:=f3_.symm;clear f1_ f2_ f3_;subst f4_;subst f5_));refine hK.out _ _ ⟨(blk_cell A2.out 0).trans rfl,(blk_cell A2.out 1).trans rfl⟩ (fun hHeld=>?_);clear hK K;refine norm_ (a':=?_) ?_ ?_;rotate_left
  ·show Act.put _ (some 17) _=_
   simp only [Act.put,s1,s2,s3,i64_w,i32_w];rfl
  refine one_ (i:=3) (N:=some 19) (tf 4 4) rfl rfl (one_of HT_.out (by kernel_rfl)) (by decide) (fun K hK=>?_);refine goes_ Tryz.func31 (by kernel_rfl) rfl #[.slice Ao13 A9.length co13,.agg #[.int .i64 A7,.string A8]] (by rfl) rfl rfl ml ?_
  with_reducible refine (impl_Decide.calls k _ _ A9 A7 A8 Ab Ac _ ?side1 ?side2 A6.out).mono ?_
  (case side1=>exact cw (Kd.R_reads' Aa.out).2.2)
  (case side2=>exact (Kd.R_reads' Aa.out).2.1)
  rintro e w14 ⟨rfl,hb⟩;refine ⟨_,rfl,?_⟩;have n0_:=Aside0.mk (Kd.R_below (ra Aa) hb);have n1_:=Aside0.mk (blk_below (g:=A4) (o := .cells #[.int .i64 A7,.string A8] 57 (0,0)) (dr A2) hb);have n2_:=Aside0.mk (below_step (tb HB) hb);clear Aa;clear A2;clear HB;have Aa:=n0_;have A2:=n1_;have HB:=n2_;clear n0_ n1_ n2_;(try clear hb);(try clear hb2);(try clear hk);(try clear hi);refine hK.out _ _ ⟨(blk_cell A2.out 0).trans rfl,(blk_cell A2.out 1).trans rfl⟩ (fun hHeld=>?_);clear hK K;refine norm_ (a':=?_) ?_ ?_;rotate_left
  ·show Act.put _ (some 19) _=_
   simp only [Act.put,s1,s2,s3,i64_w,i32_w];rfl
  refine pvT HT_ 4 20 (tf 5 3) ?_;refine pvT HT_ 5 21 (tf 6 2) ?_;refine pvT HT_ 6 4 (tf 7 1) ?_;refine pvT HT_ 7 5 (tf 8 0) ?_;refine done_ (done_of HT_.out (by kernel_rfl)) ?_
  try go_wp2
  go_ret2;exact ⟨er,tb HB⟩
 ·replace c4:=Bool.eq_false_iff.mpr c4;subst c4
  have H1:(some (0,false))=some (r1,r2):=by rw [if_neg (show ¬ (false=true) by decide)] at H;exact H
  clear H;have H:=H1;clear H1;simp only [Option.some.injEq,Prod.mk.injEq] at H;obtain ⟨rfl,rfl⟩:=H
  go_enter Tryz.func8,Tryz.ntmps8
  go_wp2_with (first|((with_reducible refine gate_callee (f:=30) rfl ?_);refine goesL_ (some 11) rfl rfl Tryz.func30 (by kernel_rfl) rfl #[.slice A0 l0.length c0,.slice A1 l1.length c1] rfl ml ?_;(with_reducible refine (impl_TableOf.calls k _ _ l0 _ _ l1 A7 A8 false _ ?side1 ?side2 ?side3 ?side4 A3.out).mono ?_);(case side1=>exact cw HR0.out);(case side2=>exact HC0.out);(case side3=>exact cw HR1.out);(case side4=>exact HC1.out);rintro e w15 ⟨rfl,hb⟩;refine ⟨_,rfl,?_⟩;replace HB:=Aside0.mk (below_step (tb HB) hb);(try clear hb);(try clear hb2);(try clear hk);(try clear hi))|((with_reducible refine gate_dst (N:=6) rfl ?_);refine bx (N:=6) (cs:=#[.int .i64 0,.string (⟨#[]⟩:ByteArray)]) (t:=57) ?_;intro A4 hg w16 hbox hb;have A2:=Aside0.mk (hbox);have Ad:=Aside0.mk ((by rw [hg];exact (below_size (tb HB)):w.heap.size≤A4));have Ae:=Aside0.mk ((by rw [hg];exact (below_size (tb HB)):w.heap.size≤A4));replace HB:=Aside0.mk (below_step (tb HB) hb);clear hb hbox hg;have hcz17__:=c2_ A2;have hfz17__:=f_ A2));go_ret2;exact ⟨er,tb HB⟩
def laws_at.f (l0:List Int) (a1:Int):Option (Int):=if a1 < (l0.length:Int) then (if 0≤a1 then (some (wrap64 (rd l0 a1))) else (none)) else (some (Int.tmod (wrap64 ((wrap64 (a1 * 7)) + (l0.length:Int))) 256))
theorem laws_at.calls (A0:Option Addr) (c0:Nat) (l0:List Int) (a1:Int) (r:Int) (w:World) (hr0:Kd.C (Kd.int .u8) w A0 l0.length l0) (hc0:l0.length≤c0) (h:laws_at.f l0 a1=some r) :
  Calls Tryz.prog 10 #[.slice A0 l0.length c0,.int .i64 a1] w fun e w'=>e = .returned (.int .i64 r)∧Drawn0 w w':=by
 have HR0:=Aside0.mk hr0;have HC0:=Aside0.mk hc0;clear hr0 hc0;have H:(if a1 < (l0.length:Int) then (if 0≤a1 then (some (wrap64 (rd l0 a1))) else (none)) else (some (Int.tmod (wrap64 ((wrap64 (a1 * 7)) + (l0.length:Int))) 256)))=some r:=h;clear h
 by_cases c3:a1 < (l0.length:Int)
 ·rw [if_pos c3] at H;have c3b0:decide (a1 < (l0.length:Int))=true:=decide_eq_true c3;clear c3
  by_cases c4:0≤a1
  ·rw [if_pos c4] at H;have c4b0:decide (0≤a1)=true:=decide_eq_true c4;clear c4;obtain rfl:=os H;have p101:0≤(a1:Int):=od;have q101:a1 < (l0.length:Int):=od;obtain ⟨ad101,e101,hx101_0⟩:=Kd.at_int HR0.out a1 p101 q101;cases e101;replace p101:=eq_true p101;replace q101:=eq_true q101
   go_enter Tryz.func10,Tryz.ntmps10
   go_wp2;go_ret;exact ⟨e1,dn⟩
  ·rw [if_neg c4] at H;exact absurd H (by simp)
 ·rw [if_neg c3] at H;have c3b0:decide (a1 < (l0.length:Int))=false:=decide_eq_false c3;clear c3;obtain rfl:=os H
  go_enter Tryz.func10,Tryz.ntmps10
  go_wp2;go_ret;exact ⟨e1,dn⟩
def laws_big.f (l0:List Int):Option (Bool):=some (decide ((l0.length:Int) > 1048576))
theorem laws_big.calls (A0:Option Addr) (c0:Nat) (l0:List Int) (r:Bool) (w:World) (hr0:Kd.C (Kd.int .u8) w A0 l0.length l0) (hc0:l0.length≤c0) (h:laws_big.f l0=some r) :
  Calls Tryz.prog 5 #[.slice A0 l0.length c0] w fun e w'=>e = .returned (.bool r)∧Drawn0 w w':=by
 have HR0:=Aside0.mk hr0;have HC0:=Aside0.mk hc0;clear hr0 hc0;have H:(some (decide ((l0.length:Int) > 1048576)))=some r:=h;clear h;obtain rfl:=os H
 go_enter Tryz.func5,Tryz.ntmps5
 go_wp2;go_ret;exact ⟨e1,dn⟩
def IsS75 (w0 W:World) (g:Nat) (f0:List Int) (f1:Int) (f2:Int):Prop:=∃ A0 c0,W.heap[g]? = some (.cells #[.slice A0 f0.length c0,.int .i64 f1,.int .i64 f2] 75 (0,0))∧w0.heap.size≤g∧Kd.C (Kd.int .u8) w0 A0 f0.length f0
theorem IsS75.grown {w0 W:World} {g:Nat} {f0:List Int} {f1:Int} {f2:Int} {W1:World} {row:Option Nat} (h:IsS75 w0 W g f0 f1 f2) (hw:W.grownBy W1 row) (hne:some g≠row):IsS75 w0 W1 g f0 f1 f2:=by
 obtain ⟨A0,c0,hb,hg,hr0⟩:=h;exact ⟨A0,c0,blk_grown hb hw hne,hg,hr0⟩
theorem IsS75.fresh {w0 W:World} {g:Nat} {f0:List Int} {f1:Int} {f2:Int} (h:IsS75 w0 W g f0 f1 f2):∀ k,W.heap.size≤k→k≠g:=by
 obtain ⟨A0,c0,hb,hg,hr0⟩:=h;exact Kd.freshB hb
theorem IsS75.kept {w0 W:World} {g:Nat} {f0:List Int} {f1:Int} {f2:Int} {W1:World} {S:Nat→Prop} (h:IsS75 w0 W g f0 f1 f2) (hk:Kept W W1 S) (hne:¬ S g):IsS75 w0 W1 g f0 f1 f2:=by
 obtain ⟨A0,c0,hb,hg,hr0⟩:=h;exact ⟨A0,c0,blk_kept hb hk hne,hg,hr0⟩
theorem IsS75.below {w0 W:World} {g:Nat} {f0:List Int} {f1:Int} {f2:Int} {W1:World} (h:IsS75 w0 W g f0 f1 f2) (hw:Below W.heap.size W W1):IsS75 w0 W1 g f0 f1 f2:=h.grown (grown_of_below hw none) (by simp)
theorem IsS75.alloc {w0 W:World} {g:Nat} {f0:List Int} {f1:Int} {f2:Int} (h:IsS75 w0 W g f0 f1 f2) (o:Obj):IsS75 w0 (W.alloc o) g f0 f1 f2:=h.below (below_alloc (Below.refl _ _) o)
theorem IsS75.drewN {w0 W:World} {g:Nat} {f0:List Int} {f1:Int} {f2:Int} (h:IsS75 w0 W g f0 f1 f2) (m:Nat):IsS75 w0 (W.drewN m) g f0 f1 f2:=h
theorem IsS75.drew {w0 W:World} {g:Nat} {f0:List Int} {f1:Int} {f2:Int} (h:IsS75 w0 W g f0 f1 f2):IsS75 w0 W.drew g f0 f1 f2:=h
theorem IsS75.at_ {w0 W:World} {g:Nat} {f0:List Int} {f1:Int} {f2:Int} {w':World} {m:Nat} (hq:W.drewN m=w') (h:IsS75 w0 W g f0 f1 f2):IsS75 w0 w' g f0 f1 f2:=by subst hq;exact IsS75.drewN h m
theorem IsS75.apart {w0 W:World} {g:Nat} {f0:List Int} {f1:Int} {f2:Int} {α:Type} {d:Kd α} {e:Nat} {base:Nat} {ok:Nat→Prop} {v:Value} {xs:List α} (h:IsS75 w0 W g f0 f1 f2) (ho:d.R e W base ok v xs) (ht:∀ q,q∈e :: d.E→q≠75):d.R e W base (fun k=>ok k∧k≠g) v xs:=by
 obtain ⟨A0,c0,hb,hg,hr0⟩:=h;exact Kd.R_types ho hb ht
theorem IsS75.own_ne {w0 W:World} {g:Nat} {f0:List Int} {f1:Int} {f2:Int} {α:Type} {d:Kd α} {e:Nat} {base:Nat} {ok:Nat→Prop} {v:Value} {xs:List α} (h:IsS75 w0 W g f0 f1 f2) (ho:d.R e W base ok v xs) (ht:e≠75):some g≠v.ownBlock:=by
 obtain ⟨A0,c0,hb,hg,hr0⟩:=h;exact Kd.R_ne ho hb ht
theorem IsS75.lt {w0 W:World} {g:Nat} {f0:List Int} {f1:Int} {f2:Int} (h:IsS75 w0 W g f0 f1 f2):g < W.heap.size:=by
 obtain ⟨A0,c0,hb,hg,hr0⟩:=h;exact blk_lt hb
theorem IsS75.ge {w0 W:World} {g:Nat} {f0:List Int} {f1:Int} {f2:Int} (h:IsS75 w0 W g f0 f1 f2):w0.heap.size≤g:=by
 obtain ⟨A0,c0,hb,hg,hr0⟩:=h;exact hg
theorem IsS75.far {w0 W:World} {g:Nat} {f0:List Int} {f1:Int} {f2:Int} {p:Addr} (h:IsS75 w0 W g f0 f1 f2) (hne:g≠p.block) (u:Value):IsS75 w0 (W.setCell p u) g f0 f1 f2:=by
 obtain ⟨A0,c0,hb,hg,hr0⟩:=h;exact ⟨A0,c0,blk_far hb hne u,hg,hr0⟩
theorem cellS75_0 {W:World} {g:Nat} {A0:Option Addr} {c0:Nat} {f0:List Int} {f1:Int} {f2:Int} (h:W.heap[g]? = some (.cells #[.slice A0 f0.length c0,.int .i64 f1,.int .i64 f2] 75 (0,0))):W.cell? ⟨g,0,none⟩=some (.slice A0 f0.length c0):=(blk_cell h 0).trans rfl
theorem cellS75_1 {W:World} {g:Nat} {A0:Option Addr} {c0:Nat} {f0:List Int} {f1:Int} {f2:Int} (h:W.heap[g]? = some (.cells #[.slice A0 f0.length c0,.int .i64 f1,.int .i64 f2] 75 (0,0))):W.cell? ⟨g,1,none⟩=some (.int .i64 f1):=(blk_cell h 1).trans rfl
theorem IsS75.set_1 {w0 W:World} {g:Nat} {f0:List Int} {f1:Int} {f2:Int} (h:IsS75 w0 W g f0 f1 f2) (x:Int):IsS75 w0 (W.setCell ⟨g,1,none⟩ (.int .i64 x)) g f0 x f2:=by
 obtain ⟨A0,c0,hb,hg,hr0⟩:=h;exact ⟨A0,c0,by simpa using blk_set hb 1 (.int .i64 x),hg,hr0⟩
theorem cellS75_2 {W:World} {g:Nat} {A0:Option Addr} {c0:Nat} {f0:List Int} {f1:Int} {f2:Int} (h:W.heap[g]? = some (.cells #[.slice A0 f0.length c0,.int .i64 f1,.int .i64 f2] 75 (0,0))):W.cell? ⟨g,2,none⟩=some (.int .i64 f2):=(blk_cell h 2).trans rfl
theorem IsS75.set_2 {w0 W:World} {g:Nat} {f0:List Int} {f1:Int} {f2:Int} (h:IsS75 w0 W g f0 f1 f2) (x:Int):IsS75 w0 (W.setCell ⟨g,2,none⟩ (.int .i64 x)) g f0 f1 x:=by
 obtain ⟨A0,c0,hb,hg,hr0⟩:=h;exact ⟨A0,c0,by simpa using blk_set hb 2 (.int .i64 x),hg,hr0⟩
def spec_l01New.l0:Nat→List Int→Int→Int→Option (List Int × Int × Int)
 | 0,_,_,_=>none
 | k + 1,x0,x3,x4=>if x4 < (x0.length:Int) then (if x4 < 4000 then (if 0≤x4 then (spec_l01New.l0 k x0 (Go.bits .and .i64 (wrap64 ((wrap64 ((wrap64 (x3 * 131)) + (wrap64 (rd x0 x4)))) + 7)) 1073741823) (wrap64 (x4 + 1))) else (none)) else (some (x0,0,x3))) else (some (x0,0,x3))
def spec_l01New.f (k:Nat) (l0:List Int):Option (List Int × Int × Int):=spec_l01New.l0 k l0 (wrap64 (118118 + (l0.length:Int))) 0
theorem spec_l01New.calls (k:Nat) (A0:Option Addr) (c0:Nat) (l0:List Int) (r1:List Int) (r2:Int) (r3:Int) (w0 w:World) (hB:Below w0.heap.size w0 w) (hr0:Kd.C (Kd.int .u8) w0 A0 l0.length l0) (hc0:l0.length≤c0) (h:spec_l01New.f k l0=some (r1,r2,r3)) :
  Calls Tryz.prog 22 #[.slice A0 l0.length c0] w fun e w'=>∃ g_:Nat,e = .returned (.pointer (some ⟨g_,0,none⟩))∧IsS75 w0 w' g_ r1 r2 r3∧Below w0.heap.size w0 w'∧Below w.heap.size w w':=by
 have hu75:=Tryz.underlying75;have HR0:=Aside0.mk hr0;have HC0:=Aside0.mk hc0;clear hr0 hc0;have HBW:=Aside0.mk (Below.refl w.heap.size w);have HW0:=Aside0.mk hB.size;have HB:=Aside0.mk hB;clear hB;have H:(spec_l01New.l0 k l0 (wrap64 (118118 + (l0.length:Int))) 0)=some (r1,r2,r3):=h;clear h;have H':=Aside0.mk H;clear H
 go_enter Tryz.func22,Tryz.ntmps22
 go_wp2
 go_loopg [3,4] k (fun kq v3 v4 w'=>∃ (A2:Int) (A1:Int),v3 = .int .i64 A2∧v4 = .int .i64 A1∧Aside0 (spec_l01New.l0 kq l0 A2 A1=some (r1,r2,r3))∧Aside0 (kq≤k)∧Aside0 (Below w0.heap.size w0 w')∧Aside0 (Below w.heap.size w w'))
 case atStart=>exact ⟨(wrap64 (118118 + (l0.length:Int))),(0),(by first|rfl|(simp;done)|(simp [*];done)),(by first|rfl|(simp;done)|(simp [*];done)),H',⟨Nat.le_refl _⟩,⟨by exact tb HB⟩,⟨by repeat (first|(with_reducible first|exact HBW.out|apply below_alloc|apply pw_below_drewN|apply below_drew1)|exact HBW.out)⟩⟩
 case round =>
  clear H';obtain ⟨A2,A1,rfl,rfl,HA,HK1,HB,HBW⟩:=hrel
  cases gk with
  | zero=>exact absurd HA.out (by simp [spec_l01New.l0])
  | succ k1 =>
   have H:=HA.out;clear HA;simp only [spec_l01New.l0] at H
   by_cases c2:A1 < (l0.length:Int)
   ·rw [if_pos c2] at H;have c2b0:decide (A1 < (l0.length:Int))=true:=decide_eq_true c2;clear c2
    by_cases c3:A1 < 4000
    ·rw [if_pos c3] at H;have c3b0:decide (A1 < 4000)=true:=decide_eq_true c3;clear c3
     by_cases c4:0≤A1
     ·rw [if_pos c4] at H;have c4b0:decide (0≤A1)=true:=decide_eq_true c4;clear c4;have H':=Aside0.mk H;clear H;have p101:0≤(A1:Int):=od;have q101:A1 < (l0.length:Int):=od;obtain ⟨ad101,e101,hx101_0⟩:=Kd.at_int HR0.out A1 p101 q101;cases e101;replace hx101_0:=pw_cell_below HB.out hx101_0;replace p101:=eq_true p101;replace q101:=eq_true q101;go_wp2;go_roundg k1
      case measure=>have:=HK1.out;omega
      case rel=>exact ⟨(Go.bits .and .i64 (wrap64 ((wrap64 ((wrap64 (A2 * 131)) + (wrap64 (rd l0 A1)))) + 7)) 1073741823),(wrap64 (A1 + 1)),(by first|rfl|(simp;done)|(simp [*];done)),(by first|rfl|(simp;done)|(simp [*];done)),H',⟨by have:=HK1.out;omega⟩,⟨by exact tb HB⟩,⟨by repeat (first|(with_reducible first|exact HBW.out|apply below_alloc|apply pw_below_drewN|apply below_drew1)|exact HBW.out)⟩⟩
     ·rw [if_neg c4] at H;exact absurd H (by simp)
    ·rw [if_neg c3] at H;have c3b0:decide (A1 < 4000)=false:=decide_eq_false c3;clear c3;simp only [Option.some.injEq,Prod.mk.injEq] at H;obtain ⟨rfl,rfl,rfl⟩:=H;go_wp2_with (first|((with_reducible refine gate_dst (N:=31) rfl ?_);refine bx (N:=31) (cs:=#[.slice A0 l0.length c0,.int .i64 0,.int .i64 A2]) (t:=75) ?_;intro A3 hg w5 hbox hb;replace HB:=Aside0.mk (below_step (tb HB) hb);have A5:=Aside0.mk (hbox);have A6:=Aside0.mk ((by rw [hg];exact (below_size (by repeat (first|(with_reducible first|exact HBW.out|apply below_alloc|apply pw_below_drewN|apply below_drew1)|exact HBW.out))):w.heap.size≤A3));have A7:=Aside0.mk ((Nat.le_trans HW0.out (by rw [hg];exact (below_size (by repeat (first|(with_reducible first|exact HBW.out|apply below_alloc|apply pw_below_drewN|apply below_drew1)|exact HBW.out))):w.heap.size≤A3):w0.heap.size≤A3));replace HBW:=Aside0.mk (below_step HBW.out hb);clear hb hbox hg));go_ret;exact ⟨_,rfl,(show IsS75 w0 _ A3 l0 0 A2 from ⟨_,_,dr A5,A7.out,HR0.out⟩),tb HB,by repeat (first|(with_reducible first|exact HBW.out|apply below_alloc|apply pw_below_drewN|apply below_drew1|refine below_set ?_ A6.out)|exact HBW.out)⟩
   ·rw [if_neg c2] at H;have c2b0:decide (A1 < (l0.length:Int))=false:=decide_eq_false c2;clear c2;simp only [Option.some.injEq,Prod.mk.injEq] at H;obtain ⟨rfl,rfl,rfl⟩:=H;go_wp2_with (first|((with_reducible refine gate_dst (N:=31) rfl ?_);refine bx (N:=31) (cs:=#[.slice A0 l0.length c0,.int .i64 0,.int .i64 A2]) (t:=75) ?_;intro A4 hg w6 hbox hb;replace HB:=Aside0.mk (below_step (tb HB) hb);have A8:=Aside0.mk (hbox);have A9:=Aside0.mk ((by rw [hg];exact (below_size (by repeat (first|(with_reducible first|exact HBW.out|apply below_alloc|apply pw_below_drewN|apply below_drew1)|exact HBW.out))):w.heap.size≤A4));have Aa:=Aside0.mk ((Nat.le_trans HW0.out (by rw [hg];exact (below_size (by repeat (first|(with_reducible first|exact HBW.out|apply below_alloc|apply pw_below_drewN|apply below_drew1)|exact HBW.out))):w.heap.size≤A4):w0.heap.size≤A4));replace HBW:=Aside0.mk (below_step HBW.out hb);clear hb hbox hg));go_ret;exact ⟨_,rfl,(show IsS75 w0 _ A4 l0 0 A2 from ⟨_,_,dr A8,Aa.out,HR0.out⟩),tb HB,by repeat (first|(with_reducible first|exact HBW.out|apply below_alloc|apply pw_below_drewN|apply below_drew1|refine below_set ?_ A9.out)|exact HBW.out)⟩
theorem ti75 {w0 W0 W:World} {g:Nat} {f0:List Int} {f1:Int} {f2:Int} {f0_:List Int} {f1_:Int} {f2_:Int} (hi:Aside0 (IsS75 w0 W0 g f0 f1 f2)) (h:IsS75 w0 W0 g f0 f1 f2→IsS75 w0 W g f0_ f1_ f2_:=by intro h_;repeat (first|(with_reducible first|exact h_|apply IsS75.alloc|apply IsS75.drewN|apply IsS75.drew|apply IsS75.set_1|apply IsS75.set_2|refine IsS75.far ?_ (Aside0.out (by assumption)) _)|exact h_)):IsS75 w0 W g f0_ f1_ f2_:=h hi.out
theorem tj75 {w0 w W W1 W2:World} {g:Nat} {f0:List Int} {f1:Int} {f2:Int} (hb:Aside0 (Below w0.heap.size w W)) (hi:Aside0 (IsS75 w0 W2 g f0 f1 f2)) (h:w0.heap.size≤g→Below w0.heap.size w W→Below w0.heap.size w W1:=by intro g_ h_;repeat (first|(with_reducible first|exact h_|apply below_alloc|apply pw_below_drewN|apply below_drew1|refine below_set ?_ g_|refine below_set ?_ (Aside0.out (by assumption)))|exact h_)):Below w0.heap.size w W1:=h hi.out.ge hb.out
def spec_l01In.f (a0:Int) (a1:Int) (a2:Int):Option (Bool):=if a0 ≥ a1 then (some (decide (a0≤a2))) else (some false)
theorem spec_l01In.calls (a0:Int) (a1:Int) (a2:Int) (r:Bool) (w:World) (h:spec_l01In.f a0 a1 a2=some r) :
  Calls Tryz.prog 60 #[.int .i64 a0,.int .i64 a1,.int .i64 a2] w fun e w'=>e = .returned (.bool r)∧Drawn0 w w':=by
 have H:(if a0 ≥ a1 then (some (decide (a0≤a2))) else (some false))=some r:=h;clear h
 by_cases c4:a0 ≥ a1
 ·rw [if_pos c4] at H;have c4b0:decide (a1≤a0)=true:=decide_eq_true c4;clear c4;obtain rfl:=os H
  go_enter Tryz.func60,Tryz.ntmps60
  go_wp2;go_ret;exact ⟨e1,dn⟩
 ·rw [if_neg c4] at H;have c4b0:decide (a1≤a0)=false:=decide_eq_false c4;clear c4;obtain rfl:=os H
  go_enter Tryz.func60,Tryz.ntmps60
  go_wp2;go_ret;exact ⟨e1,dn⟩
def spec_l02Quant.f (a0:Int):Option (Bool):=if a0=19 then (some true) else (some (a0 == 20))
theorem spec_l02Quant.calls (a0:Int) (r:Bool) (w:World) (h:spec_l02Quant.f a0=some r) :
  Calls Tryz.prog 58 #[.int .i64 a0] w fun e w'=>e = .returned (.bool r)∧Drawn0 w w':=by
 have H:(if a0=19 then (some true) else (some (a0 == 20)))=some r:=h;clear h
 by_cases c2:a0=19
 ·rw [if_pos c2] at H;have c2b0:(a0 == 19)=true:=beq_iff_eq.mpr c2;have c2b1:(a0 != 19)=false:=bne_eq_false_iff_eq.mpr c2;clear c2;obtain rfl:=os H
  go_enter Tryz.func58,Tryz.ntmps58
  go_wp2;go_ret;exact ⟨e1,dn⟩
 ·rw [if_neg c2] at H;have c2b0:(a0 == 19)=false:=beq_eq_false_iff_ne.mpr c2;have c2b1:(a0 != 19)=true:=bne_iff_ne.mpr c2;obtain rfl:=os H
  go_enter Tryz.func58,Tryz.ntmps58
  go_wp2;go_ret;exact ⟨e1,dn⟩
def spec_l02Outer.f (a0:Int):Option (Bool):=if a0=2 then (some true) else (if a0=3 then (some true) else (if a0=4 then (some true) else ((spec_l02Quant.f a0).bind fun A0=>(some A0))))
theorem spec_l02Outer.calls (a0:Int) (r:Bool) (w:World) (h:spec_l02Outer.f a0=some r) :
  Calls Tryz.prog 59 #[.int .i64 a0] w fun e w'=>e = .returned (.bool r)∧Drawn0 w w':=by
 have H:(if a0=2 then (some true) else (if a0=3 then (some true) else (if a0=4 then (some true) else ((spec_l02Quant.f a0).bind fun A0=>(some A0)))))=some r:=h;clear h
 by_cases c2:a0=2
 ·rw [if_pos c2] at H;have c2b0:(a0 == 2)=true:=beq_iff_eq.mpr c2;have c2b1:(a0 != 2)=false:=bne_eq_false_iff_eq.mpr c2;clear c2;obtain rfl:=os H
  go_enter Tryz.func59,Tryz.ntmps59
  go_wp2;go_ret;exact ⟨e1,dn⟩
 ·rw [if_neg c2] at H;have c2b0:(a0 == 2)=false:=beq_eq_false_iff_ne.mpr c2;have c2b1:(a0 != 2)=true:=bne_iff_ne.mpr c2
  by_cases c3:a0=3
  ·rw [if_pos c3] at H;have c3b0:(a0 == 3)=true:=beq_iff_eq.mpr c3;have c3b1:(a0 != 3)=false:=bne_eq_false_iff_eq.mpr c3;clear c3;obtain rfl:=os H
   go_enter Tryz.func59,Tryz.ntmps59
   go_wp2;go_ret;exact ⟨e1,dn⟩
  ·rw [if_neg c3] at H;have c3b0:(a0 == 3)=false:=beq_eq_false_iff_ne.mpr c3;have c3b1:(a0 != 3)=true:=bne_iff_ne.mpr c3
   by_cases c4:a0=4
   ·rw [if_pos c4] at H;have c4b0:(a0 == 4)=true:=beq_iff_eq.mpr c4;have c4b1:(a0 != 4)=false:=bne_eq_false_iff_eq.mpr c4;clear c4;obtain rfl:=os H
    go_enter Tryz.func59,Tryz.ntmps59
    go_wp2;go_ret;exact ⟨e1,dn⟩
   ·rw [if_neg c4] at H;have c4b0:(a0 == 4)=false:=beq_eq_false_iff_ne.mpr c4;have c4b1:(a0 != 4)=true:=bne_iff_ne.mpr c4;replace H:=ob H;obtain ⟨A0,A50,H⟩:=H;replace H:(some A0)=some r:=H;have A5:=Aside0.mk A50;clear A50;obtain rfl:=os H
    go_enter Tryz.func59,Tryz.ntmps59
    go_wp2_with (first|(go_at_call 58;(try simp only [i64_w,i32_w]);(with_reducible refine (spec_l02Quant.calls a0 A0 _ A5.out).mono ?_);rintro e w' ⟨rfl,⟨nd,rfl⟩⟩));go_ret;exact ⟨e1,dn⟩
end Go.Proofs.YthipjoioicmcnaaGreat.G
namespace Go.Proofs.YthipjoioicmcnaaGreat.G
open Go.Proofs.YthipjoioicmcnaaGreat.Sh Go.RowKit Go.Proofs.YthipjoioicmcnaaGreatW.PrintWords Go.Proofs.YthipjoioicmcnaaGreatW.PrintLast Go.Proofs.YthipjoioicmcnaaGreatW.PrintMore
theorem ct_ {w W:World} {p:Addr} {v:Value} (hb:Aside0 (Below w.heap.size w W)) (h:w.cell? p=some v):W.cell? p=some v:=(hb.out.cell (World.block_lt_of_cell? w _ h)).trans h
theorem nand2 {a b:Bool} (h:¬ (a=true∧b=true)):a=false∨(a=true∧b=false):=by cases a <;> cases b <;> simp_all
def inB (x a b:Int):Bool:=decide (a≤x∧x≤b)
theorem inB_f (x a b:Int):spec_l01In.f x a b=some (inB x a b):=by
 unfold spec_l01In.f inB
 by_cases h:x ≥ a
 ·rw [if_pos h]
  simp [h]
 ·rw [if_neg h]
  have:¬ a≤x:=h
  simp [this]
theorem inC (x a b:Int) (w:World):Calls Tryz.prog 60 #[.int .i64 x,.int .i64 a,.int .i64 b] w fun e w'=>e = .returned (.bool (inB x a b))∧Drawn0 w w':=spec_l01In.calls x a b _ w (inB_f x a b)
theorem ns6 {t g:Nat} {w W:World} {x0 x1 x2 x3 x4 x5:Value} (h:Aside0 (W.heap[g]? = some (.cells #[x0,x1,x2,x3,x4,x5] t (0,0)))) (hb:Aside0 (Below w.heap.size w W)) (hg:Aside0 (w.heap.size≤g)) (u0 u1 u2 u3 u4 u5:Value) :
  ∃ W',((((((W.setCell ⟨g,0,none⟩ u0).setCell ⟨g,1,none⟩ u1).setCell ⟨g,2,none⟩ u2).setCell ⟨g,3,none⟩ u3).setCell ⟨g,4,none⟩ u4).setCell ⟨g,5,none⟩ u5)=W'∧Aside0 (W'.heap[g]? = some (.cells #[u0,u1,u2,u3,u4,u5] t (0,0)))∧Aside0 (Below w.heap.size w W')∧Aside0 (Kept W W' (fun k=>k=g)):=by
 have h1:=blk_put (cs:=#[x0,x1,x2,x3,x4,x5]) (cs':=#[u0,x1,x2,x3,x4,x5]) h.out 0 u0 rfl
 have h2:=blk_put (cs:=#[u0,x1,x2,x3,x4,x5]) (cs':=#[u0,u1,x2,x3,x4,x5]) h1 1 u1 rfl
 have h3:=blk_put (cs:=#[u0,u1,x2,x3,x4,x5]) (cs':=#[u0,u1,u2,x3,x4,x5]) h2 2 u2 rfl
 have h4:=blk_put (cs:=#[u0,u1,u2,x3,x4,x5]) (cs':=#[u0,u1,u2,u3,x4,x5]) h3 3 u3 rfl
 have h5:=blk_put (cs:=#[u0,u1,u2,u3,x4,x5]) (cs':=#[u0,u1,u2,u3,u4,x5]) h4 4 u4 rfl
 have h6:=blk_put (cs:=#[u0,u1,u2,u3,u4,x5]) (cs':=#[u0,u1,u2,u3,u4,u5]) h5 5 u5 rfl
 have k6:=((((((Kept.refl W (fun k=>k=g)).setCell (p:=⟨g,0,none⟩) (Or.inl rfl) u0).setCell (p:=⟨g,1,none⟩) (Or.inl rfl) u1).setCell (p:=⟨g,2,none⟩) (Or.inl rfl) u2).setCell (p:=⟨g,3,none⟩) (Or.inl rfl) u3).setCell (p:=⟨g,4,none⟩) (Or.inl rfl) u4).setCell (p:=⟨g,5,none⟩) (Or.inl rfl) u5
 have b6:=below_set (j:=5) (v:=u5) (below_set (j:=4) (v:=u4) (below_set (j:=3) (v:=u3) (below_set (j:=2) (v:=u2) (below_set (j:=1) (v:=u1) (below_set (j:=0) (v:=u0) hb.out hg.out) hg.out) hg.out) hg.out) hg.out) hg.out
 exact ⟨_,rfl,⟨h6⟩,⟨b6⟩,⟨k6⟩⟩
theorem cc6 {w:World} {g:Nat} {t:TypeId} {x0 x1 x2 x3 x4 x5:Value} (h:Aside0 (w.heap[g]? = some (.cells #[x0,x1,x2,x3,x4,x5] t (0,0)))):w.cell? ⟨g,0,none⟩=some x0∧w.cell? ⟨g,1,none⟩=some x1∧w.cell? ⟨g,2,none⟩=some x2∧w.cell? ⟨g,3,none⟩=some x3∧w.cell? ⟨g,4,none⟩=some x4∧w.cell? ⟨g,5,none⟩=some x5 :=
 ⟨(blk_cell h.out 0).trans rfl,(blk_cell h.out 1).trans rfl,(blk_cell h.out 2).trans rfl,(blk_cell h.out 3).trans rfl,(blk_cell h.out 4).trans rfl,(blk_cell h.out 5).trans rfl⟩
theorem ff_ {w:World} {g:Nat} {t:TypeId} {cs:Array Value} (h:Aside0 (w.heap[g]? = some (.cells cs t (0,0)))) (i:Nat):w.frozen? ⟨g,i,none⟩=false:=blk_frozen h.out i
section
variable {P:Program} {ops:Array Oper} {Q:Exit→Act→World→Prop} {md:Region.Mode} {S:World→Prop} {ds:List Nat}
abbrev tF (k m:Nat):Array Bool:=(List.replicate k true ++ List.replicate m false).toArray
theorem pureQ {k m:Nat} {N:Tmp} {oi:Oper} {v:Value} {fuel:Nat} {a:Act} {w:World} (hi:ops[k]? = some oi) (hN:oi.dst=some N) (hc:anyB md ops (tF k (m + 1)) (tF (k + 1) m) k=true)
  (hQ:∀ c a w,Q (.panic c) (a.put oi.dst v) w→Q (.panic c) a w) (hy:Yields P ops oi v a) {a':Act} (ha:a.put (some N) v=a') (h:wpAnyLast P md ops Q S ds fuel (tF (k + 1) m) a' w):wpAnyLast P md ops Q S ds (fuel + 1) (tF k (m + 1)) a w:=pure_ _ hi hN hc hQ hy ha h
theorem takeQ {k m:Nat} {N:Tmp} {oi:Oper} {v:Value} {fuel:Nat} {a:Act} {w:World} (hi:ops[k]? = some oi) (hN:oi.dst=some N) (hc:takeB md ops ds (tF k (m + 1)) (tF (k + 1) m) k=true)
  (hQ:∀ c a w,Q (.panic c) (a.put oi.dst v) w→Q (.panic c) a w) (hy:YieldsIf P ops S oi v a) (hS:S w) {a':Act} (ha:a.put (some N) v=a') (h:wpAnyLast P md ops Q S ds fuel (tF (k + 1) m) a' w):wpAnyLast P md ops Q S ds (fuel + 1) (tF k (m + 1)) a w:=take_ _ hi hN hc hQ hy hS ha h
theorem lastQ {k:Nat} {oi:Oper} {fuel:Nat} {a:Act} {w:World} (hi:ops[k]? = some oi) (hN:oi.dst=none) (hc:readyB md ops (tF k 1) (tF (k + 1) 0) k=true) (hd:k∈ds) (hw:Region.wanted oi (yielded ops a.tmps)=true) {w1:World} (hrun:(execOp a.eval oi).run P w = .ok .skip w1) (he:(Region.ready md ops (tF (k + 1) 0) == [])=true) (h:Q .normal a w1):wpAnyLast P md ops Q S ds (fuel + 1) (tF k 1) a w :=
 last_ _ hi hN hc hd (fun K hK=>skip_ hw hN hrun (hK.out _ _ (done_ he h)))
end
theorem ns3 {t g:Nat} {w W:World} {x0 x1 x2:Value} (h:Aside0 (W.heap[g]? = some (.cells #[x0,x1,x2] t (0,0)))) (hb:Aside0 (Below w.heap.size w W)) (hg:Aside0 (w.heap.size≤g)) (u0 u1 u2:Value) :
  ∃ W',(((W.setCell ⟨g,0,none⟩ u0).setCell ⟨g,1,none⟩ u1).setCell ⟨g,2,none⟩ u2)=W'∧Aside0 (W'.heap[g]? = some (.cells #[u0,u1,u2] t (0,0)))∧Aside0 (Below w.heap.size w W') :=
 ⟨_,rfl,⟨bp3 h.out⟩,⟨below_set (below_set (below_set hb.out hg.out) hg.out) hg.out⟩⟩
theorem cc3 {w:World} {g:Nat} {t:TypeId} {x0 x1 x2:Value} (h:Aside0 (w.heap[g]? = some (.cells #[x0,x1,x2] t (0,0)))):w.cell? ⟨g,0,none⟩=some x0∧w.cell? ⟨g,1,none⟩=some x1∧w.cell? ⟨g,2,none⟩=some x2 :=
 ⟨(blk_cell h.out 0).trans rfl,(blk_cell h.out 1).trans rfl,(blk_cell h.out 2).trans rfl⟩
def quB (o:Int):Bool:=if o=19 then true else o == 20
theorem quC (o:Int) (w:World):Calls Tryz.prog 58 #[.int .i64 o] w fun e w'=>e = .returned (.bool (quB o))∧Drawn0 w w':=spec_l02Quant.calls o _ w (by unfold spec_l02Quant.f quB;split <;> rfl)
def ouB (o:Int):Bool:=if o=2 then true else if o=3 then true else if o=4 then true else quB o
theorem ouC (o:Int) (w:World):Calls Tryz.prog 59 #[.int .i64 o] w fun e w'=>e = .returned (.bool (ouB o))∧Drawn0 w w':=spec_l02Outer.calls o _ w (by unfold spec_l02Outer.f ouB quB spec_l02Quant.f;repeat' split <;> simp_all)
structure DpS (w0 w W:World) (g:Nat) (s:List Int) (p q:Int) (P:Nat→Prop) (u:Value) (l:List S52):Prop where
 I:IsS75 w0 W g s p q
 B:Below w0.heap.size w0 W
 T:Kd.R k52 52 W w0.heap.size (fun k=>(P k∨w.heap.size≤k)∧k≠g) u l
 K:Kept w W (fun k=>P k∨k=g)
section
variable {w0 w W W':World} {g:Nat} {s:List Int} {p q p' q':Int} {P:Nat→Prop} {u v:Value} {l l':List S52}
theorem DpS.cur (h:DpS w0 w W g s p q P u l) (hi:IsS75 w0 W' g s p' q') (hb:Below w0.heap.size w0 W') (hk:KeepBut W W' g none):DpS w0 w W' g s p' q' P u l :=
 ⟨hi,hb,Kd.R_keep h.T hk (fun _ hk=>hk.2),Kept.of_keep h.K hk (Or.inl (Or.inr rfl))⟩
theorem DpS.below (h:DpS w0 w W g s p q P u l) (hb:Below W.heap.size W W'):DpS w0 w W' g s p q P u l:=⟨h.I.below hb,below_then h.B h.B.size hb,Kd.R_below h.T hb,Kept.below h.K hb⟩
theorem DpS.dn (h:DpS w0 w W g s p q P u l) (n:Nat):DpS w0 w (W.drewN n) g s p q P u l:=h.below (pw_below_drewN (Below.refl _ _) n)
theorem DpS.push (h:DpS w0 w W g s p q P u l) (ht:Kd.R k52 52 W' w0.heap.size (fun k=>((P k∨w.heap.size≤k)∧k≠g)∨W.heap.size≤k) v l') (hb:Below w0.heap.size w0 W') (hk:Kept W W' (fun k=>(P k∨w.heap.size≤k)∧k≠g)):DpS w0 w W' g s p q P v l' :=
 ⟨h.I.kept hk (fun h=>h.2 rfl),hb,Kd.R_mono ht (fun k hk=>hk.elim id (fun h2=>⟨Or.inr (Nat.le_trans h.K.1 h2),h.I.fresh k h2⟩)),h.K.then_ hk (fun k hk=>hk.1.elim (fun h=>Or.inl (Or.inl h)) Or.inr)⟩
theorem DpS.deep (h:DpS w0 w W g s p q P u l) (ht:Kd.R k52 52 W' w0.heap.size (fun k=>((P k∨w.heap.size≤k)∧k≠g)∨W.heap.size≤k) v l') (hi:IsS75 w0 W' g s p' q') (hb:Below w0.heap.size w0 W') (hk:Kept W W' (fun k=>((P k∨w.heap.size≤k)∧k≠g)∨k=g)):DpS w0 w W' g s p' q' P v l' :=
 ⟨hi,hb,Kd.R_mono ht (fun k hk=>hk.elim id (fun h2=>⟨Or.inr (Nat.le_trans h.K.1 h2),h.I.fresh k h2⟩)),h.K.then_ hk (fun k hk=>hk.elim (fun h=>h.1.elim (fun h=>Or.inl (Or.inl h)) Or.inr) (fun h=>Or.inl (Or.inr h)))⟩
theorem DpS.vars {A:Option Addr} {n:Nat} {xs:List S52} (h:DpS w0 w W g s p q P u l) (hv:∀ W_,Kept w W_ (fun k=>P k∨k=g)→Kd.C k52 W_ A n xs):∀ W_,Kept W W_ (fun k=>((P k∨w.heap.size≤k)∧k≠g)∨k=g)→Kd.C k52 W_ A n xs :=
 fun W_ hk=>hv W_ (h.K.then_ hk (fun k hk=>hk.elim (fun h=>h.1.elim (fun h=>Or.inl (Or.inl h)) Or.inr) (fun h=>Or.inl (Or.inr h))))
theorem DpS.fin (h:DpS w0 w W g s p q P u l):Kd.R k52 52 W w0.heap.size (fun k=>(P k∨w.heap.size≤k)) u l:=Kd.R_mono h.T (fun _ hk=>hk.1)
end
end Go.Proofs.YthipjoioicmcnaaGreat.G
namespace Go.Proofs.YthipjoioicmcnaaGreat.G
open Go.RowKit Go.Proofs.YthipjoioicmcnaaGreatW.PrintWords Go.Proofs.YthipjoioicmcnaaGreatW.PrintLast Go.Proofs.YthipjoioicmcnaaGreatW.PrintMore Go.Proofs.YthipjoioicmcnaaGreat.Sh
attribute [local go_sem] max2_int min2_int max_two min_two max_three min_three max_four min_four
def spec_Parts.j0:Nat→Bool→Int→Int→Int→Int→Int→Int→Option (List Int)
 | 0,_,_,_,_,_,_,_=>none
 | k + 1,x3,x102000,x102001,x102002,x102003,x102004,x102005=>if x3=true then (some (([x102003]:List Int))) else ((spec_l01In.f x102000 3 16).bind fun A8=>(if A8=true then (some (([x102003,x102004]:List Int))) else (if x102000=18 then (some (([x102003,x102004,x102005]:List Int))) else (some (([]:List Int))))))
def spec_Parts.f (k:Nat) (A0:Int) (A5:Int) (A6:Int) (A2:Int) (A3:Int) (A4:Int):Option (List Int):=if A0=2 then (spec_Parts.j0 k true A0 A5 A6 A2 A3 A4) else (if A0=17 then (spec_Parts.j0 k true A0 A5 A6 A2 A3 A4) else (if A0=19 then (spec_Parts.j0 k true A0 A5 A6 A2 A3 A4) else (spec_Parts.j0 k (A0 == 20) A0 A5 A6 A2 A3 A4)))
theorem spec_Parts.calls (k:Nat) (A0:Int) (A5:Int) (A6:Int) (A2:Int) (A3:Int) (A4:Int) (r:List Int) (w:World) (h:spec_Parts.f k A0 A5 A6 A2 A3 A4=some r) :
  Calls Tryz.prog 27 #[.agg #[.int .i64 A0,.int .i64 A5,.int .i64 A6,.int .i64 A2,.int .i64 A3,.int .i64 A4]] w fun e w'=>∃ v0_:Value,e = .returned (v0_)∧Kd.R (Kd.int .i64) 3 w' w.heap.size (fun _=>True) v0_ r∧Below w.heap.size w w':=by
 have hu52:=Tryz.underlying52;have HB:=Aside0.mk (Below.refl w.heap.size w);have H:(if A0=2 then (spec_Parts.j0 k true A0 A5 A6 A2 A3 A4) else (if A0=17 then (spec_Parts.j0 k true A0 A5 A6 A2 A3 A4) else (if A0=19 then (spec_Parts.j0 k true A0 A5 A6 A2 A3 A4) else (spec_Parts.j0 k (A0 == 20) A0 A5 A6 A2 A3 A4))))=some r:=h;clear h;have HC2:=Aside0.mk H;clear H
 go_enter Tryz.func27,Tryz.ntmps27
 go_upto_region 1 with (first|((with_reducible refine gate_dst (N:=1) rfl ?_);refine bx (N:=1) (cs:=#[.int .i64 A0,.int .i64 A5,.int .i64 A6,.int .i64 A2,.int .i64 A3,.int .i64 A4]) (t:=52) ?_;intro A7 hg w3 hbox hb;have A1:=Aside0.mk (hbox);have GW101:=Aside0.mk ((by rw [hg];exact (below_size (tb HB)):w.heap.size≤A7));have GE101:=Aside0.mk ((by rw [hg];exact (below_size (tb HB)):w.heap.size≤A7));replace HB:=Aside0.mk (below_step (tb HB) hb);clear hb hbox hg))
 (try simp only [Act.put,List.setIfInBounds_toArray,List.set_cons_zero,List.set_cons_succ])
 go_cut [3] (fun v3 wc=>∃ (kq:Nat) (A9:Bool),v3 = .bool A9∧Aside0 (spec_Parts.j0 kq A9 A0 A5 A6 A2 A3 A4=some r)∧Aside0 (kq≤k)∧Aside0 (wc.heap[A7]? = some (.cells #[.int .i64 A0,.int .i64 A5,.int .i64 A6,.int .i64 A2,.int .i64 A3,.int .i64 A4] 52 (0,0)))∧Aside0 (Below w.heap.size w wc))
 case first =>
  have H:=HC2.out;clear HC2
  by_cases c4:A0=2
  ·rw [if_pos c4] at H;have c4b0:(A0 == 2)=true:=beq_iff_eq.mpr c4;have c4b1:(A0 != 2)=false:=bne_eq_false_iff_eq.mpr c4;clear c4;(first|rw [c4b0]|(simp only [i64_w,i32_w];rw [c4b0])|skip);have H':=Aside0.mk H;clear H;have hcz5__:=c6_ A1;have hfz5__:=f_ A1;go_wp2;go_meet
   case rel=>exact ⟨_,(true),(by first|rfl|(simp;done)|(simp [*];done)),H',⟨by first|omega|exact Nat.le_refl _⟩,⟨dr A1⟩,⟨by exact tb HB⟩⟩
  ·rw [if_neg c4] at H;have c4b0:(A0 == 2)=false:=beq_eq_false_iff_ne.mpr c4;have c4b1:(A0 != 2)=true:=bne_iff_ne.mpr c4;(first|rw [c4b0]|(simp only [i64_w,i32_w];rw [c4b0])|skip)
   by_cases c6:A0=17
   ·rw [if_pos c6] at H;have c6b0:(A0 == 17)=true:=beq_iff_eq.mpr c6;have c6b1:(A0 != 17)=false:=bne_eq_false_iff_eq.mpr c6;clear c6;have H':=Aside0.mk H;clear H;have hcz7__:=c6_ A1;have hfz7__:=f_ A1;go_wp2;go_meet
    case rel=>exact ⟨_,(true),(by first|rfl|(simp;done)|(simp [*];done)),H',⟨by first|omega|exact Nat.le_refl _⟩,⟨dr A1⟩,⟨by exact tb HB⟩⟩
   ·rw [if_neg c6] at H;have c6b0:(A0 == 17)=false:=beq_eq_false_iff_ne.mpr c6;have c6b1:(A0 != 17)=true:=bne_iff_ne.mpr c6
    by_cases c8:A0=19
    ·rw [if_pos c8] at H;have c8b0:(A0 == 19)=true:=beq_iff_eq.mpr c8;have c8b1:(A0 != 19)=false:=bne_eq_false_iff_eq.mpr c8;clear c8;have H':=Aside0.mk H;clear H;have hcz9__:=c6_ A1;have hfz9__:=f_ A1;go_wp2;go_meet
     case rel=>exact ⟨_,(true),(by first|rfl|(simp;done)|(simp [*];done)),H',⟨by first|omega|exact Nat.le_refl _⟩,⟨dr A1⟩,⟨by exact tb HB⟩⟩
    ·rw [if_neg c8] at H;have c8b0:(A0 == 19)=false:=beq_eq_false_iff_ne.mpr c8;have c8b1:(A0 != 19)=true:=bne_iff_ne.mpr c8;have H':=Aside0.mk H;clear H;have hcz10__:=c6_ A1;have hfz10__:=f_ A1;go_wp2;go_meet
     case rel=>exact ⟨_,((A0 == 20)),(by first|rfl|(simp;done)|(simp [*];done)),H',⟨by first|omega|exact Nat.le_refl _⟩,⟨dr A1⟩,⟨by exact tb HB⟩⟩
 case rest =>
  clear HC2;(try clear c2);(try clear p2);(try clear c4);(try clear c4b0);(try clear c4b1);(try clear c6);(try clear c6b0);(try clear c6b1);(try clear c8);(try clear c8b0);(try clear c8b1);(try clear hcz10__);(try clear hcz5__);(try clear hcz7__);(try clear hcz9__);(try clear hfz10__);(try clear hfz5__);(try clear hfz7__);(try clear hfz9__);obtain ⟨kq,A9,rfl,HA,HJ1,A1,HB⟩:=hcut
  cases kq with
  | zero=>exact absurd HA.out (by simp [spec_Parts.j0])
  | succ kj1 =>
   have H:=HA.out;clear HA;simp only [spec_Parts.j0] at H
   by_cases c11:A9=true
   ·subst c11
    have H1:(some (([A2]:List Int)))=some r:=by rw [if_pos rfl] at H;exact H
    clear H;have H:=H1;clear H1;obtain ⟨y102,hy102⟩:∃ y_:List Int,y_=(([A2]:List Int)):=⟨_,rfl⟩;replace H:(some y102)=some r:=hy_ hy102 H;have Ny102:=Aside0.mk hy102;clear hy102;obtain rfl:=os H;have hcz12__:=c6_ A1;have hfz12__:=f_ A1;go_wp2_with (first|((with_reducible refine gate_dst (N:=24) rfl ?_);refine Kd.R_lit (Kd.int .i64) _ 3 ?hg (N:=24) ?hd (xs:=([A2]:List Int)) (inner:=[.int .i64 A2]) (ok:=fun _=>True) (okp:=fun _=>True) ?hr ?hp (fun _ hk=>hk) trivial (Below.refl _ _) (Nat.le_refl _) (by simp) ?_;(case hd=>rfl);(case hg=>rfl);(case hr=>first|(go_simp;done)|(go_simp;rfl));(case hp=>exact (Reps.one (show Kd.M (Kd.int .i64) _ _ _ A2 [.int .i64 A2] from rfl) (Reps.none _ _)));intro v103 w13 ho14 hb hg_ hnew_;clear hg_ hnew_;(first|rw [← Ny102.out] at ho14|(simp only [Int.reduceToNat] at ho14;rw [← Ny102.out] at ho14));have Aa:=Aside0.mk (Kd.R_lower ho14 (below_size (tb HB)));replace A1:=Aside0.mk (blk_below (g:=A7) (o := .cells #[.int .i64 A0,.int .i64 A5,.int .i64 A6,.int .i64 A2,.int .i64 A3,.int .i64 A4] 52 (0,0)) (dr A1) hb);replace HB:=Aside0.mk (below_step (tb HB) hb);clear hb ho14));go_ret;exact ⟨_,er,ra Aa,tb HB⟩
   ·replace c11:=Bool.eq_false_iff.mpr c11;subst c11
    have H1:((spec_l01In.f A0 3 16).bind fun A8=>(if A8=true then (some (([A2,A3]:List Int))) else (if A0=18 then (some (([A2,A3,A4]:List Int))) else (some (([]:List Int))))))=some r:=by rw [if_neg (show ¬ (false=true) by decide)] at H;exact H
    clear H;have H:=H1;clear H1;replace H:=ob H;obtain ⟨A8,A150,H⟩:=H
    try dsimp only at H
    have A15:=Aside0.mk A150;clear A150
    by_cases c16:A8=true
    ·subst c16
     have H1:(some (([A2,A3]:List Int)))=some r:=by rw [if_pos rfl] at H;exact H
     clear H;have H:=H1;clear H1;obtain ⟨y106,hy106⟩:∃ y_:List Int,y_=(([A2,A3]:List Int)):=⟨_,rfl⟩;replace H:(some y106)=some r:=hy_ hy106 H;have Ny106:=Aside0.mk hy106;clear hy106;obtain rfl:=os H;have hcz17__:=c6_ A1;have hfz17__:=f_ A1;go_wp2_with (first|((with_reducible refine gate_callee (f:=60) rfl ?_);refine goesL_ (some 28) rfl rfl Tryz.func60 (by kernel_rfl) rfl #[.int .i64 A0,.int .i64 3,.int .i64 16] rfl ml ?_;(with_reducible refine (spec_l01In.calls A0 3 16 true _ A15.out).mono ?_);rintro e w' ⟨rfl,⟨nd,rfl⟩⟩;refine ⟨_,rfl,?_⟩)|((with_reducible refine gate_dst (N:=33) rfl ?_);refine Kd.R_lit (Kd.int .i64) _ 3 ?hg (N:=33) ?hd (xs:=([A2,A3]:List Int)) (inner:=[.int .i64 A2,.int .i64 A3]) (ok:=fun _=>True) (okp:=fun _=>True) ?hr ?hp (fun _ hk=>hk) trivial (Below.refl _ _) (Nat.le_refl _) (by simp) ?_;(case hd=>rfl);(case hg=>rfl);(case hr=>first|(go_simp;done)|(go_simp;rfl));(case hp=>exact (Reps.one (show Kd.M (Kd.int .i64) _ _ _ A2 [.int .i64 A2] from rfl) (Reps.one (show Kd.M (Kd.int .i64) _ _ _ A3 [.int .i64 A3] from rfl) (Reps.none _ _))));intro v107 w18 ho19 hb hg_ hnew_;clear hg_ hnew_;(first|rw [← Ny106.out] at ho19|(simp only [Int.reduceToNat] at ho19;rw [← Ny106.out] at ho19));have Ab:=Aside0.mk (Kd.R_lower ho19 (below_size (tb HB)));replace A1:=Aside0.mk (blk_below (g:=A7) (o := .cells #[.int .i64 A0,.int .i64 A5,.int .i64 A6,.int .i64 A2,.int .i64 A3,.int .i64 A4] 52 (0,0)) (dr A1) hb);replace HB:=Aside0.mk (below_step (tb HB) hb);clear hb ho19));go_ret;exact ⟨_,er,ra Ab,tb HB⟩
    ·replace c16:=Bool.eq_false_iff.mpr c16;subst c16
     have H1:(if A0=18 then (some (([A2,A3,A4]:List Int))) else (some (([]:List Int))))=some r:=by rw [if_neg (show ¬ (false=true) by decide)] at H;exact H
     clear H;have H:=H1;clear H1
     by_cases c20:A0=18
     ·rw [if_pos c20] at H;have c20b0:(A0 == 18)=true:=beq_iff_eq.mpr c20;have c20b1:(A0 != 18)=false:=bne_eq_false_iff_eq.mpr c20;clear c20;obtain ⟨y109,hy109⟩:∃ y_:List Int,y_=(([A2,A3,A4]:List Int)):=⟨_,rfl⟩;replace H:(some y109)=some r:=hy_ hy109 H;have Ny109:=Aside0.mk hy109;clear hy109;obtain rfl:=os H;have hcz21__:=c6_ A1;have hfz21__:=f_ A1;go_wp2_with (first|((with_reducible refine gate_callee (f:=60) rfl ?_);refine goesL_ (some 28) rfl rfl Tryz.func60 (by kernel_rfl) rfl #[.int .i64 A0,.int .i64 3,.int .i64 16] rfl ml ?_;(with_reducible refine (spec_l01In.calls A0 3 16 false _ A15.out).mono ?_);rintro e w' ⟨rfl,⟨nd,rfl⟩⟩;refine ⟨_,rfl,?_⟩)|((with_reducible refine gate_dst (N:=44) rfl ?_);refine Kd.R_lit (Kd.int .i64) _ 3 ?hg (N:=44) ?hd (xs:=([A2,A3,A4]:List Int)) (inner:=[.int .i64 A2,.int .i64 A3,.int .i64 A4]) (ok:=fun _=>True) (okp:=fun _=>True) ?hr ?hp (fun _ hk=>hk) trivial (Below.refl _ _) (Nat.le_refl _) (by simp) ?_;(case hd=>rfl);(case hg=>rfl);(case hr=>first|(go_simp;done)|(go_simp;rfl));(case hp=>exact (Reps.one (show Kd.M (Kd.int .i64) _ _ _ A2 [.int .i64 A2] from rfl) (Reps.one (show Kd.M (Kd.int .i64) _ _ _ A3 [.int .i64 A3] from rfl) (Reps.one (show Kd.M (Kd.int .i64) _ _ _ A4 [.int .i64 A4] from rfl) (Reps.none _ _)))));intro v110 w22 ho23 hb hg_ hnew_;clear hg_ hnew_;(first|rw [← Ny109.out] at ho23|(simp only [Int.reduceToNat] at ho23;rw [← Ny109.out] at ho23));have Ac:=Aside0.mk (Kd.R_lower ho23 (below_size (tb HB)));replace A1:=Aside0.mk (blk_below (g:=A7) (o := .cells #[.int .i64 A0,.int .i64 A5,.int .i64 A6,.int .i64 A2,.int .i64 A3,.int .i64 A4] 52 (0,0)) (dr A1) hb);replace HB:=Aside0.mk (below_step (tb HB) hb);clear hb ho23));go_ret;exact ⟨_,er,ra Ac,tb HB⟩
     ·rw [if_neg c20] at H;have c20b0:(A0 == 18)=false:=beq_eq_false_iff_ne.mpr c20;have c20b1:(A0 != 18)=true:=bne_iff_ne.mpr c20;obtain ⟨y112,hy112⟩:∃ y_:List Int,y_=(([]:List Int)):=⟨_,rfl⟩;replace H:(some y112)=some r:=hy_ hy112 H;have Ny112:=Aside0.mk hy112;clear hy112;obtain rfl:=os H;have hcz24__:=c6_ A1;have hfz24__:=f_ A1;go_wp2_with (first|((with_reducible refine gate_callee (f:=60) rfl ?_);refine goesL_ (some 28) rfl rfl Tryz.func60 (by kernel_rfl) rfl #[.int .i64 A0,.int .i64 3,.int .i64 16] rfl ml ?_;(with_reducible refine (spec_l01In.calls A0 3 16 false _ A15.out).mono ?_);rintro e w' ⟨rfl,⟨nd,rfl⟩⟩;refine ⟨_,rfl,?_⟩)|((with_reducible refine gate_dst (N:=45) rfl ?_);refine Kd.R_lit (Kd.int .i64) _ 3 ?hg (N:=45) ?hd (xs:=([]:List Int)) (inner:=[]) (ok:=fun _=>True) (okp:=fun _=>True) ?hr ?hp (fun _ hk=>hk) trivial (Below.refl _ _) (Nat.le_refl _) (by simp) ?_;(case hd=>rfl);(case hg=>rfl);(case hr=>first|(go_simp;done)|(go_simp;rfl));(case hp=>exact (Reps.none _ _));intro v113 w25 ho26 hb hg_ hnew_;clear hg_ hnew_;(first|rw [← Ny112.out] at ho26|(simp only [Int.reduceToNat] at ho26;rw [← Ny112.out] at ho26));have Ad:=Aside0.mk (Kd.R_lower ho26 (below_size (tb HB)));replace A1:=Aside0.mk (blk_below (g:=A7) (o := .cells #[.int .i64 A0,.int .i64 A5,.int .i64 A6,.int .i64 A2,.int .i64 A3,.int .i64 A4] 52 (0,0)) (dr A1) hb);replace HB:=Aside0.mk (below_step (tb HB) hb);clear hb ho26));go_ret;exact ⟨_,er,ra Ad,tb HB⟩
def spec_l01Pow2.l0:Nat→Int→Int→Int→Option (Int)
 | 0,_,_,_=>none
 | k + 1,x0,x3,x4=>if x4 < x0 then (spec_l01Pow2.l0 k x0 (wrap64 (2 * x3)) (wrap64 (x4 + 1))) else (some x3)
def spec_l01Pow2.f (k:Nat) (a0:Int):Option (Int):=spec_l01Pow2.l0 k a0 1 0
theorem spec_l01Pow2.calls (k:Nat) (a0:Int) (r:Int) (w:World) (h:spec_l01Pow2.f k a0=some r) :
  Calls Tryz.prog 68 #[.int .i64 a0] w fun e w'=>e = .returned (.int .i64 r)∧Drawn0 w w':=by
 have H:(spec_l01Pow2.l0 k a0 1 0)=some r:=h;clear h;have H':=Aside0.mk H;clear H
 go_enter Tryz.func68,Tryz.ntmps68
 go_wp2
 go_loopg [3,4] k (fun kq v3 v4 w'=>∃ (A1:Int) (A0:Int),v3 = .int .i64 A1∧v4 = .int .i64 A0∧Aside0 (spec_l01Pow2.l0 kq a0 A1 A0=some r)∧Aside0 (kq≤k)∧Drawn0 w w')
 case atStart=>exact ⟨(1),(0),(by first|rfl|(simp;done)|(simp [*];done)),(by first|rfl|(simp;done)|(simp [*];done)),H',⟨Nat.le_refl _⟩,by repeat (first|exact Drawn0.refl _|apply Drawn0.step)⟩
 case round =>
  clear H';obtain ⟨A1,A0,rfl,rfl,HA,HK1,⟨m1,rfl⟩⟩:=hrel
  cases gk with
  | zero=>exact absurd HA.out (by simp [spec_l01Pow2.l0])
  | succ k1 =>
   have H:=HA.out;clear HA;simp only [spec_l01Pow2.l0] at H
   by_cases c2:A0 < a0
   ·rw [if_pos c2] at H;have c2b0:decide (A0 < a0)=true:=decide_eq_true c2;clear c2;have H':=Aside0.mk H;clear H;go_wp2;go_roundg k1
    case measure=>have:=HK1.out;omega
    case rel=>exact ⟨(wrap64 (2 * A1)),(wrap64 (A0 + 1)),(by first|rfl|(simp;done)|(simp [*];done)),(by first|rfl|(simp;done)|(simp [*];done)),H',⟨by have:=HK1.out;omega⟩,by repeat (first|exact Drawn0.refl _|apply Drawn0.step)⟩
   ·rw [if_neg c2] at H;have c2b0:decide (A0 < a0)=false:=decide_eq_false c2;clear c2;obtain rfl:=os H;go_wp2;go_ret;exact ⟨e1,dn⟩
def spec_WordOk.f (k:Nat) (a0:Int) (a1:Int):Option (Bool):=(spec_l01In.f a0 1 8).bind fun A2=>(if A2=true then ((spec_l01Pow2.f k a0).bind fun A1=>((spec_l01In.f a1 0 (wrap64 (A1 - 1))).bind fun A0=>(some A0))) else (some false))
theorem spec_WordOk.calls (k:Nat) (a0:Int) (a1:Int) (r:Bool) (w:World) (h:spec_WordOk.f k a0 a1=some r) :
  Calls Tryz.prog 96 #[.int .i64 a0,.int .i64 a1] w fun e w'=>e = .returned (.bool r)∧Drawn0 w w':=by
 have H:((spec_l01In.f a0 1 8).bind fun A2=>(if A2=true then ((spec_l01Pow2.f k a0).bind fun A1=>((spec_l01In.f a1 0 (wrap64 (A1 - 1))).bind fun A0=>(some A0))) else (some false)))=some r:=h;clear h;replace H:=ob H;obtain ⟨A2,A30,H⟩:=H
 try dsimp only at H
 have A3:=Aside0.mk A30;clear A30
 by_cases c4:A2=true
 ·subst c4
  have H1:((spec_l01Pow2.f k a0).bind fun A1=>((spec_l01In.f a1 0 (wrap64 (A1 - 1))).bind fun A0=>(some A0)))=some r:=by rw [if_pos rfl] at H;exact H
  clear H;have H:=H1;clear H1;replace H:=ob H;obtain ⟨A1,A50,H⟩:=H;replace H:((spec_l01In.f a1 0 (wrap64 (A1 - 1))).bind fun A0=>(some A0))=some r:=H;have A5:=Aside0.mk A50;clear A50;replace H:=ob H;obtain ⟨A0,A60,H⟩:=H;replace H:(some A0)=some r:=H;have A6:=Aside0.mk A60;clear A60;obtain rfl:=os H
  go_enter Tryz.func96,Tryz.ntmps96
  go_wp2_with (first|((with_reducible refine gate_callee (f:=60) rfl ?_);refine goesL_ (some 6) rfl rfl Tryz.func60 (by kernel_rfl) rfl #[.int .i64 a0,.int .i64 1,.int .i64 8] rfl ml ?_;(with_reducible refine (spec_l01In.calls a0 1 8 true _ A3.out).mono ?_);rintro e w' ⟨rfl,⟨nd,rfl⟩⟩;refine ⟨_,rfl,?_⟩)|(go_at_call 68;(try simp only [i64_w,i32_w]);(with_reducible refine (spec_l01Pow2.calls k a0 A1 _ A5.out).mono ?_);rintro e w' ⟨rfl,⟨nd,rfl⟩⟩)|(go_at_call 60;(try simp only [i64_w,i32_w]);(with_reducible refine (spec_l01In.calls a1 0 (wrap64 (A1 - 1)) A0 _ A6.out).mono ?_);rintro e w' ⟨rfl,⟨nd,rfl⟩⟩));go_ret;exact ⟨e1,dn⟩
 ·replace c4:=Bool.eq_false_iff.mpr c4;subst c4
  have H1:(some false)=some r:=by rw [if_neg (show ¬ (false=true) by decide)] at H;exact H
  clear H;have H:=H1;clear H1;obtain rfl:=os H
  go_enter Tryz.func96,Tryz.ntmps96
  go_wp2_with (first|((with_reducible refine gate_callee (f:=60) rfl ?_);refine goesL_ (some 6) rfl rfl Tryz.func60 (by kernel_rfl) rfl #[.int .i64 a0,.int .i64 1,.int .i64 8] rfl ml ?_;(with_reducible refine (spec_l01In.calls a0 1 8 false _ A3.out).mono ?_);rintro e w' ⟨rfl,⟨nd,rfl⟩⟩;refine ⟨_,rfl,?_⟩));go_ret;exact ⟨e1,dn⟩
end Go.Proofs.YthipjoioicmcnaaGreat.G
