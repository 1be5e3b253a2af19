-- texts of this session, merged by a program of it (wip/gen/pack.py)
import Derived.Test.YtlpfmhikahlcoaaKFnExactMachineStep2
import Derived.Test.YtlpfmhikahlcoaaKFnExactMachineStep3
import Derived.Test.YtlpfmhikahlcoaaKFnExactMachineStep4
namespace Go.Proofs.Ytlpfmhikahlcoaa.G
open Go.Proofs.Ytlpfmhikahlcoaa.Sh Go.RowKit Go.Proofs.YtlpfmhikahlcoaaW.PrintWords Go.Proofs.YtlpfmhikahlcoaaW.PrintLast Go.Proofs.YtlpfmhikahlcoaaW.PrintMore
attribute [local go_sem] max2_int min2_int max_two min_two max_three min_three max_four min_four
set_option linter.unusedVariables false
set_option linter.unusedSimpArgs false
open Go.Proofs.Ytlpfmhikahlcoaa.Fv Go.Proofs.Ytlpfmhikahlcoaa.Sh
def impl_MachineRun.f (k:Nat) (A1:List Bool) (A3:Int) (A4:ByteArray) (A5:Int) (A2:List Int) (A6:Int) (A8:Bool) (A9:Int) (Aa:Int) (Ab:Int) (A0:List (S86)) (a1:Int):Option (List Bool × Int × ByteArray × Int × List Int × Int × Bool × Int × Int × Int × (List S86)) :=
 if A1.length < 140737488355328∧A2.length < 17592186044416∧A0.length < 5864062014805 then
  (impl_within.f a1 0 100000).bind fun t=>if t=true then (impl_MachineOk.f k A1 A3 A4 A5 A2 A6 A8 A9 Aa Ab A0).bind fun ok=>if ok=true then
   (runF k ⟨A1,A3,A4,A5,A2,A6,A8,A9,Aa,Ab,A0⟩ 0 a1).bind fun M=>if M.r.length < 140737488355328∧M.v.length < 17592186044416∧M.memo.length < 5864062014805 then some (M.r,M.N,M.s,M.room,M.v,M.ret,M.over,M.st,M.lo,M.hi,M.memo) else none
   else some (A1,A3,A4,A5,A2,A6,A8,A9,Aa,Ab,A0) else some (A1,A3,A4,A5,A2,A6,A8,A9,Aa,Ab,A0)
 else none
set_option maxHeartbeats 80000000 in
set_option maxRecDepth 100000 in
theorem impl_MachineRun.calls (k:Nat) (Ae:Option Addr) (Af:Nat) (A1:List Bool) (A3:Int) (A4:ByteArray) (A5:Int) (Ag:Option Addr) (Ah:Nat) (A2:List Int) (A6:Int) (A8:Bool) (A9:Int) (Aa:Int) (Ab:Int) (Ac:Option Addr) (Ad:Nat) (A0:List (S86)) (a1:Int) (r1:List Bool) (r2:Int) (r3:ByteArray) (r4:Int) (r5:List Int) (r6:Int) (r7:Bool) (r8:Int) (r9:Int) (r10:Int) (r11:List (S86)) (w:World) (hr0_0:Kd.C Kd.bool w Ae A1.length A1) (hc0_0:A1.length≤Af) (hr0_4:Kd.C (Kd.int .i64) w Ag A2.length A2) (hc0_4:A2.length≤Ah) (hr0_10:Kd.C k86 w Ac A0.length A0) (hc0_10:A0.length≤Ad) (h:impl_MachineRun.f k A1 A3 A4 A5 A2 A6 A8 A9 Aa Ab A0 a1=some (r1,r2,r3,r4,r5,r6,r7,r8,r9,r10,r11)) :
  Calls Try.prog 41 #[.agg #[.slice Ae A1.length Af,.int .i64 A3,.string A4,.int .i64 A5,.slice Ag A2.length Ah,.int .i64 A6,.bool A8,.int .i64 A9,.int .i64 Aa,.int .i64 Ab,.slice Ac A0.length Ad],.int .i64 a1] w fun e w'=>∃ v0_ v4_ v10_:Value,e = .returned (.agg #[v0_,.int .i64 r2,.string r3,.int .i64 r4,v4_,.int .i64 r6,.bool r7,.int .i64 r8,.int .i64 r9,.int .i64 r10,v10_])∧Kd.R Kd.bool 4 w' w.heap.size (fun _=>True) v0_ r1∧Kd.R (Kd.int .i64) 3 w' w.heap.size (fun _=>True) v4_ r5∧Kd.R k86 86 w' w.heap.size (fun _=>True) v10_ r11∧Below w.heap.size w w':=by
 unfold impl_MachineRun.f at h
 by_cases cB:A1.length < 140737488355328∧A2.length < 17592186044416∧A0.length < 5864062014805
 case neg=>rw [if_neg cB] at h;cases h
 rw [if_pos cB] at h
 have HCP:=Aside0.mk (copyM_eq (a0_1:=A3) (a0_2:=A4) (a0_3:=A5) (a0_5:=A6) (a0_6:=A8) (a0_7:=A9) (a0_8:=Aa) (a0_9:=Ab) cB);have HR0:=Aside0.mk hr0_0;have HR4:=Aside0.mk hr0_4;have HR10:=Aside0.mk hr0_10;have HC:=Aside0.mk (And.intro hc0_0 (And.intro hc0_4 hc0_10));clear cB hr0_0 hc0_0 hr0_4 hc0_4 hr0_10 hc0_10
 obtain ⟨t,ht,h⟩:=Option.bind_eq_some_iff.1 h
 have HT:=Aside0.mk ht;clear ht
 cases t with
  | false =>
  rw [if_neg (by decide)] at h
  simp only [Option.some.injEq,Prod.mk.injEq] at h
  obtain ⟨rfl,rfl,rfl,rfl,rfl,rfl,rfl,rfl,rfl,rfl,rfl⟩:=h
  go_enter Try.func41,Try.ntmps41
  go_wp2_with (first|((with_reducible refine gate_dst (N:=2) rfl ?_);refine bx (N:=2) (cs:=#[.slice Ae A1.length Af,.int .i64 A3,.string A4,.int .i64 A5,.slice Ag A2.length Ah,.int .i64 A6,.bool A8,.int .i64 A9,.int .i64 Aa,.int .i64 Ab,.slice Ac A0.length Ad]) (t:=36) ?_;intro gp hg w1 hbox hb;have BPa:=Aside0.mk hbox;have HXa:=Aside0.mk hb;obtain ⟨hcp0,hcp1,hcp2,hcp3,hcp4,hcp5,hcp6,hcp7,hcp8,hcp9,hcp10⟩:=c11_ BPa;clear hg hbox hb)|((with_reducible refine gate_dst (N:=4) rfl ?_);refine bx (N:=4) (cs:=#[.slice none 0 0,.int .i64 0,.string (⟨#[]⟩:ByteArray),.int .i64 0,.slice none 0 0,.int .i64 0,.bool false,.int .i64 0,.int .i64 0,.int .i64 0,.slice none 0 0]) (t:=36) ?_;intro gr hg w2 hbox hb;have BRb:=Aside0.mk hbox;have HXb:=Aside0.mk (below_step HXa.out hb);have BPb:=Aside0.mk (blk_below BPa.out hb);have GR:=Aside0.mk (show w.heap.size≤gr by rw [hg];exact HXa.out.size);clear BPa HXa;clear hcp0 hcp1 hcp2 hcp3 hcp4 hcp5 hcp6 hcp7 hcp8 hcp9 hcp10;obtain ⟨hcp0,hcp1,hcp2,hcp3,hcp4,hcp5,hcp6,hcp7,hcp8,hcp9,hcp10⟩:=c11_ BPb;clear hg hbox hb)|((with_reducible refine gate_callee (f:=83) rfl ?_);(try (refine gate_guard (by rfl) ?_;dsimp only));refine goesL_ (some 7) rfl rfl Try.func83 (by kernel_rfl) rfl #[.agg #[.slice Ae A1.length Af,.int .i64 A3,.string A4,.int .i64 A5,.slice Ag A2.length Ah,.int .i64 A6,.bool A8,.int .i64 A9,.int .i64 Aa,.int .i64 Ab,.slice Ac A0.length Ad]] rfl ml ?_;(with_reducible refine (impl_copyMachine.calls Ae Af A1 A3 A4 A5 Ag Ah A2 A6 A8 A9 Aa Ab Ac Ad A0 A1 A3 A4 A5 A2 A6 A8 A9 Aa Ab A0 _ (Kd.C_below HR0.out HXb.out) HC.out.1 (Kd.C_below HR4.out HXb.out) HC.out.2.1 (Kd.C_below HR10.out HXb.out) HC.out.2.2 HCP.out).mono ?_);rintro e w3 ⟨va,vb,vc,rfl,hra,hrb,hrc,hb⟩;refine ⟨_,rfl,?_⟩;obtain ⟨Ao,co,ea⟩:=Kd.R_slice hra;subst ea;obtain ⟨Av,cv,eb⟩:=Kd.R_slice hrb;subst eb;obtain ⟨Am,cm,ec⟩:=Kd.R_slice hrc;subst ec;have HRac:=Aside0.mk (Kd.R_lower hra HXb.out.size);have HRbc:=Aside0.mk (Kd.R_lower hrb HXb.out.size);have HRcc:=Aside0.mk (Kd.R_lower hrc HXb.out.size);have BPc:=Aside0.mk (blk_below BPb.out hb);have BRc:=Aside0.mk (blk_below BRb.out hb);have HXc:=Aside0.mk (below_step HXb.out hb);clear hra hrb hrc hb BPb BRb HXb;clear hcp0 hcp1 hcp2 hcp3 hcp4 hcp5 hcp6 hcp7 hcp8 hcp9 hcp10;obtain ⟨hcp0,hcp1,hcp2,hcp3,hcp4,hcp5,hcp6,hcp7,hcp8,hcp9,hcp10⟩:=c11_ BPc)|((with_reducible refine gate_dst (N:=5) rfl ?_);refine bx (N:=5) (cs:=#[.slice none 0 0,.int .i64 0,.string (⟨#[]⟩:ByteArray),.int .i64 0,.slice none 0 0,.int .i64 0,.bool false,.int .i64 0,.int .i64 0,.int .i64 0,.slice none 0 0]) (t:=36) ?_;intro go hg w4 hbox hb;have BOd:=Aside0.mk hbox;have BPd:=Aside0.mk (blk_below BPc.out hb);have BRd:=Aside0.mk (blk_below BRc.out hb);have HXd:=Aside0.mk (below_step HXc.out hb);have HRad:=Aside0.mk (Kd.R_below HRac.out hb);have HRbd:=Aside0.mk (Kd.R_below HRbc.out hb);have HRcd:=Aside0.mk (Kd.R_below HRcc.out hb);have GO:=Aside0.mk (show w.heap.size≤go by rw [hg];exact HXc.out.size);have NRO:=Aside0.mk (show gr≠go by rw [hg];exact Nat.ne_of_lt (blk_lt BRc.out));have NPO:=Aside0.mk (show gp≠go by rw [hg];exact Nat.ne_of_lt (blk_lt BPc.out));clear BPc BRc HXc HRac HRbc HRcc;clear hcp0 hcp1 hcp2 hcp3 hcp4 hcp5 hcp6 hcp7 hcp8 hcp9 hcp10;obtain ⟨hcp0,hcp1,hcp2,hcp3,hcp4,hcp5,hcp6,hcp7,hcp8,hcp9,hcp10⟩:=c11_ BPd;obtain ⟨hco0,hco1,hco2,hco3,hco4,hco5,hco6,hco7,hco8,hco9,hco10⟩:=c11_ BOd;have hcof0:=blk_frozen BOd.out 0;have hcof1:=blk_frozen BOd.out 1;have hcof2:=blk_frozen BOd.out 2;have hcof3:=blk_frozen BOd.out 3;have hcof4:=blk_frozen BOd.out 4;have hcof5:=blk_frozen BOd.out 5;have hcof6:=blk_frozen BOd.out 6;have hcof7:=blk_frozen BOd.out 7;have hcof8:=blk_frozen BOd.out 8;have hcof9:=blk_frozen BOd.out 9;have hcof10:=blk_frozen BOd.out 10;have hn1_:=NPO.out;have hn2_:go≠gp:=fun e_=>NPO.out e_.symm;clear hg hbox hb)|((with_reducible refine gate_callee (f:=64) rfl ?_);(try (refine gate_guard (by rfl) ?_;dsimp only));refine goesL_ (some 9) rfl rfl Try.func64 (by kernel_rfl) rfl #[.int .i64 a1,.int .i64 0,.int .i64 100000] rfl ml ?_;(with_reducible refine (impl_within.calls a1 0 100000 false _ HT.out).mono ?_);rintro e w6 ⟨rfl,⟨nd,hw6⟩⟩;refine ⟨_,rfl,?_⟩;have hb:Below ((((((((((((w4.setCell ⟨go,0,none⟩ (.slice Ao A1.length co)).setCell ⟨go,1,none⟩ (.int .i64 A3)).setCell ⟨go,2,none⟩ (.string A4)).setCell ⟨go,3,none⟩ (.int .i64 A5)).setCell ⟨go,4,none⟩ (.slice Av A2.length cv)).setCell ⟨go,5,none⟩ (.int .i64 A6)).setCell ⟨go,6,none⟩ (.bool A8)).setCell ⟨go,7,none⟩ (.int .i64 A9)).setCell ⟨go,8,none⟩ (.int .i64 Aa)).setCell ⟨go,9,none⟩ (.int .i64 Ab)).setCell ⟨go,10,none⟩ (.slice Am A0.length cm))).heap.size ((((((((((((w4.setCell ⟨go,0,none⟩ (.slice Ao A1.length co)).setCell ⟨go,1,none⟩ (.int .i64 A3)).setCell ⟨go,2,none⟩ (.string A4)).setCell ⟨go,3,none⟩ (.int .i64 A5)).setCell ⟨go,4,none⟩ (.slice Av A2.length cv)).setCell ⟨go,5,none⟩ (.int .i64 A6)).setCell ⟨go,6,none⟩ (.bool A8)).setCell ⟨go,7,none⟩ (.int .i64 A9)).setCell ⟨go,8,none⟩ (.int .i64 Aa)).setCell ⟨go,9,none⟩ (.int .i64 Ab)).setCell ⟨go,10,none⟩ (.slice Am A0.length cm))) w6:=(by rw [hw6];exact pw_below_drewN (Below.refl _ _) nd);have BOe:Aside0 ((((((((((((w4.setCell ⟨go,0,none⟩ (.slice Ao A1.length co)).setCell ⟨go,1,none⟩ (.int .i64 A3)).setCell ⟨go,2,none⟩ (.string A4)).setCell ⟨go,3,none⟩ (.int .i64 A5)).setCell ⟨go,4,none⟩ (.slice Av A2.length cv)).setCell ⟨go,5,none⟩ (.int .i64 A6)).setCell ⟨go,6,none⟩ (.bool A8)).setCell ⟨go,7,none⟩ (.int .i64 A9)).setCell ⟨go,8,none⟩ (.int .i64 Aa)).setCell ⟨go,9,none⟩ (.int .i64 Ab)).setCell ⟨go,10,none⟩ (.slice Am A0.length cm)).heap[go]? = some (.cells #[.slice Ao A1.length co,.int .i64 A3,.string A4,.int .i64 A5,.slice Av A2.length cv,.int .i64 A6,.bool A8,.int .i64 A9,.int .i64 Aa,.int .i64 Ab,.slice Am A0.length cm] 36 (0,0))):=⟨bp11 BOd.out⟩;have BPe:Aside0 ((((((((((((w4.setCell ⟨go,0,none⟩ (.slice Ao A1.length co)).setCell ⟨go,1,none⟩ (.int .i64 A3)).setCell ⟨go,2,none⟩ (.string A4)).setCell ⟨go,3,none⟩ (.int .i64 A5)).setCell ⟨go,4,none⟩ (.slice Av A2.length cv)).setCell ⟨go,5,none⟩ (.int .i64 A6)).setCell ⟨go,6,none⟩ (.bool A8)).setCell ⟨go,7,none⟩ (.int .i64 A9)).setCell ⟨go,8,none⟩ (.int .i64 Aa)).setCell ⟨go,9,none⟩ (.int .i64 Ab)).setCell ⟨go,10,none⟩ (.slice Am A0.length cm)).heap[gp]? = some (.cells #[.slice Ae A1.length Af,.int .i64 A3,.string A4,.int .i64 A5,.slice Ag A2.length Ah,.int .i64 A6,.bool A8,.int .i64 A9,.int .i64 Aa,.int .i64 Ab,.slice Ac A0.length Ad] 36 (0,0))):=⟨far11 BPd.out NPO.out⟩;have BRe:Aside0 ((((((((((((w4.setCell ⟨go,0,none⟩ (.slice Ao A1.length co)).setCell ⟨go,1,none⟩ (.int .i64 A3)).setCell ⟨go,2,none⟩ (.string A4)).setCell ⟨go,3,none⟩ (.int .i64 A5)).setCell ⟨go,4,none⟩ (.slice Av A2.length cv)).setCell ⟨go,5,none⟩ (.int .i64 A6)).setCell ⟨go,6,none⟩ (.bool A8)).setCell ⟨go,7,none⟩ (.int .i64 A9)).setCell ⟨go,8,none⟩ (.int .i64 Aa)).setCell ⟨go,9,none⟩ (.int .i64 Ab)).setCell ⟨go,10,none⟩ (.slice Am A0.length cm)).heap[gr]? = some (.cells #[.slice none 0 0,.int .i64 0,.string (⟨#[]⟩:ByteArray),.int .i64 0,.slice none 0 0,.int .i64 0,.bool false,.int .i64 0,.int .i64 0,.int .i64 0,.slice none 0 0] 36 (0,0))):=⟨far11 BRd.out NRO.out⟩;have HRae:Aside0 (Kd.R Kd.bool 4 (((((((((((w4.setCell ⟨go,0,none⟩ (.slice Ao A1.length co)).setCell ⟨go,1,none⟩ (.int .i64 A3)).setCell ⟨go,2,none⟩ (.string A4)).setCell ⟨go,3,none⟩ (.int .i64 A5)).setCell ⟨go,4,none⟩ (.slice Av A2.length cv)).setCell ⟨go,5,none⟩ (.int .i64 A6)).setCell ⟨go,6,none⟩ (.bool A8)).setCell ⟨go,7,none⟩ (.int .i64 A9)).setCell ⟨go,8,none⟩ (.int .i64 Aa)).setCell ⟨go,9,none⟩ (.int .i64 Ab)).setCell ⟨go,10,none⟩ (.slice Am A0.length cm)) w.heap.size (fun _=>True) (.slice Ao A1.length co) A1):=⟨R11 HRad.out BOd.out (by decide)⟩;have HRbe:Aside0 (Kd.R (Kd.int .i64) 3 (((((((((((w4.setCell ⟨go,0,none⟩ (.slice Ao A1.length co)).setCell ⟨go,1,none⟩ (.int .i64 A3)).setCell ⟨go,2,none⟩ (.string A4)).setCell ⟨go,3,none⟩ (.int .i64 A5)).setCell ⟨go,4,none⟩ (.slice Av A2.length cv)).setCell ⟨go,5,none⟩ (.int .i64 A6)).setCell ⟨go,6,none⟩ (.bool A8)).setCell ⟨go,7,none⟩ (.int .i64 A9)).setCell ⟨go,8,none⟩ (.int .i64 Aa)).setCell ⟨go,9,none⟩ (.int .i64 Ab)).setCell ⟨go,10,none⟩ (.slice Am A0.length cm)) w.heap.size (fun _=>True) (.slice Av A2.length cv) A2):=⟨R11 HRbd.out BOd.out (by decide)⟩;have HRce:Aside0 (Kd.R k86 86 (((((((((((w4.setCell ⟨go,0,none⟩ (.slice Ao A1.length co)).setCell ⟨go,1,none⟩ (.int .i64 A3)).setCell ⟨go,2,none⟩ (.string A4)).setCell ⟨go,3,none⟩ (.int .i64 A5)).setCell ⟨go,4,none⟩ (.slice Av A2.length cv)).setCell ⟨go,5,none⟩ (.int .i64 A6)).setCell ⟨go,6,none⟩ (.bool A8)).setCell ⟨go,7,none⟩ (.int .i64 A9)).setCell ⟨go,8,none⟩ (.int .i64 Aa)).setCell ⟨go,9,none⟩ (.int .i64 Ab)).setCell ⟨go,10,none⟩ (.slice Am A0.length cm)) w.heap.size (fun _=>True) (.slice Am A0.length cm) A0):=⟨R11 HRcd.out BOd.out (by decide)⟩;have HXe:Aside0 (Below w.heap.size w (((((((((((w4.setCell ⟨go,0,none⟩ (.slice Ao A1.length co)).setCell ⟨go,1,none⟩ (.int .i64 A3)).setCell ⟨go,2,none⟩ (.string A4)).setCell ⟨go,3,none⟩ (.int .i64 A5)).setCell ⟨go,4,none⟩ (.slice Av A2.length cv)).setCell ⟨go,5,none⟩ (.int .i64 A6)).setCell ⟨go,6,none⟩ (.bool A8)).setCell ⟨go,7,none⟩ (.int .i64 A9)).setCell ⟨go,8,none⟩ (.int .i64 Aa)).setCell ⟨go,9,none⟩ (.int .i64 Ab)).setCell ⟨go,10,none⟩ (.slice Am A0.length cm))):=⟨below11 HXd.out GO.out⟩;have BPf:=Aside0.mk (blk_below BPe.out hb);have BRf:=Aside0.mk (blk_below BRe.out hb);have BOf:=Aside0.mk (blk_below BOe.out hb);have HXf:=Aside0.mk (below_step HXe.out hb);have HRaf:=Aside0.mk (Kd.R_below HRae.out hb);have HRbf:=Aside0.mk (Kd.R_below HRbe.out hb);have HRcf:=Aside0.mk (Kd.R_below HRce.out hb);clear hb hw6 BOd BPd BRd HRad HRbd HRcd HXd BOe BPe BRe HRae HRbe HRce HXe;clear hn1_ hn2_;clear hcp0 hcp1 hcp2 hcp3 hcp4 hcp5 hcp6 hcp7 hcp8 hcp9 hcp10;clear hco0 hco1 hco2 hco3 hco4 hco5 hco6 hco7 hco8 hco9 hco10 hcof0 hcof1 hcof2 hcof3 hcof4 hcof5 hcof6 hcof7 hcof8 hcof9 hcof10;obtain ⟨hcp0,hcp1,hcp2,hcp3,hcp4,hcp5,hcp6,hcp7,hcp8,hcp9,hcp10⟩:=c11_ BPf;obtain ⟨hco0,hco1,hco2,hco3,hco4,hco5,hco6,hco7,hco8,hco9,hco10⟩:=c11_ BOf;obtain ⟨hcr0,hcr1,hcr2,hcr3,hcr4,hcr5,hcr6,hcr7,hcr8,hcr9,hcr10⟩:=c11_ BRf;have hcrf0:=blk_frozen BRf.out 0;have hcrf1:=blk_frozen BRf.out 1;have hcrf2:=blk_frozen BRf.out 2;have hcrf3:=blk_frozen BRf.out 3;have hcrf4:=blk_frozen BRf.out 4;have hcrf5:=blk_frozen BRf.out 5;have hcrf6:=blk_frozen BRf.out 6;have hcrf7:=blk_frozen BRf.out 7;have hcrf8:=blk_frozen BRf.out 8;have hcrf9:=blk_frozen BRf.out 9;have hcrf10:=blk_frozen BRf.out 10))
  refine bodyPost_ret (results_cell_row rfl _ _ gr 36 #[.slice Ao A1.length co,.int .i64 A3,.string A4,.int .i64 A5,.slice Av A2.length cv,.int .i64 A6,.bool A8,.int .i64 A9,.int .i64 Aa,.int .i64 Ab,.slice Am A0.length cm] (0,0) _ rfl (bp11 BRf.out) Try.underlying36 rfl (by kernel_rfl)) rfl ?_
  exact ⟨.slice Ao A1.length co,.slice Av A2.length cv,.slice Am A0.length cm,rfl,R11 HRaf.out BRf.out (by decide),R11 HRbf.out BRf.out (by decide),R11 HRcf.out BRf.out (by decide),below11 HXf.out GR.out⟩
  | true =>
 rw [if_pos rfl] at h
 obtain ⟨ok,hok,h⟩:=Option.bind_eq_some_iff.1 h
 have HOK:=Aside0.mk hok;clear hok
 cases ok with
  | false =>
  rw [if_neg (by decide)] at h
  simp only [Option.some.injEq,Prod.mk.injEq] at h
  obtain ⟨rfl,rfl,rfl,rfl,rfl,rfl,rfl,rfl,rfl,rfl,rfl⟩:=h
  go_enter Try.func41,Try.ntmps41
  go_wp2_with (first|((with_reducible refine gate_dst (N:=2) rfl ?_);refine bx (N:=2) (cs:=#[.slice Ae A1.length Af,.int .i64 A3,.string A4,.int .i64 A5,.slice Ag A2.length Ah,.int .i64 A6,.bool A8,.int .i64 A9,.int .i64 Aa,.int .i64 Ab,.slice Ac A0.length Ad]) (t:=36) ?_;intro gp hg w1 hbox hb;have BPa:=Aside0.mk hbox;have HXa:=Aside0.mk hb;obtain ⟨hcp0,hcp1,hcp2,hcp3,hcp4,hcp5,hcp6,hcp7,hcp8,hcp9,hcp10⟩:=c11_ BPa;clear hg hbox hb)|((with_reducible refine gate_dst (N:=4) rfl ?_);refine bx (N:=4) (cs:=#[.slice none 0 0,.int .i64 0,.string (⟨#[]⟩:ByteArray),.int .i64 0,.slice none 0 0,.int .i64 0,.bool false,.int .i64 0,.int .i64 0,.int .i64 0,.slice none 0 0]) (t:=36) ?_;intro gr hg w2 hbox hb;have BRb:=Aside0.mk hbox;have HXb:=Aside0.mk (below_step HXa.out hb);have BPb:=Aside0.mk (blk_below BPa.out hb);have GR:=Aside0.mk (show w.heap.size≤gr by rw [hg];exact HXa.out.size);clear BPa HXa;clear hcp0 hcp1 hcp2 hcp3 hcp4 hcp5 hcp6 hcp7 hcp8 hcp9 hcp10;obtain ⟨hcp0,hcp1,hcp2,hcp3,hcp4,hcp5,hcp6,hcp7,hcp8,hcp9,hcp10⟩:=c11_ BPb;clear hg hbox hb)|((with_reducible refine gate_callee (f:=83) rfl ?_);(try (refine gate_guard (by rfl) ?_;dsimp only));refine goesL_ (some 7) rfl rfl Try.func83 (by kernel_rfl) rfl #[.agg #[.slice Ae A1.length Af,.int .i64 A3,.string A4,.int .i64 A5,.slice Ag A2.length Ah,.int .i64 A6,.bool A8,.int .i64 A9,.int .i64 Aa,.int .i64 Ab,.slice Ac A0.length Ad]] rfl ml ?_;(with_reducible refine (impl_copyMachine.calls Ae Af A1 A3 A4 A5 Ag Ah A2 A6 A8 A9 Aa Ab Ac Ad A0 A1 A3 A4 A5 A2 A6 A8 A9 Aa Ab A0 _ (Kd.C_below HR0.out HXb.out) HC.out.1 (Kd.C_below HR4.out HXb.out) HC.out.2.1 (Kd.C_below HR10.out HXb.out) HC.out.2.2 HCP.out).mono ?_);rintro e w3 ⟨va,vb,vc,rfl,hra,hrb,hrc,hb⟩;refine ⟨_,rfl,?_⟩;obtain ⟨Ao,co,ea⟩:=Kd.R_slice hra;subst ea;obtain ⟨Av,cv,eb⟩:=Kd.R_slice hrb;subst eb;obtain ⟨Am,cm,ec⟩:=Kd.R_slice hrc;subst ec;have HRac:=Aside0.mk (Kd.R_lower hra HXb.out.size);have HRbc:=Aside0.mk (Kd.R_lower hrb HXb.out.size);have HRcc:=Aside0.mk (Kd.R_lower hrc HXb.out.size);have BPc:=Aside0.mk (blk_below BPb.out hb);have BRc:=Aside0.mk (blk_below BRb.out hb);have HXc:=Aside0.mk (below_step HXb.out hb);clear hra hrb hrc hb BPb BRb HXb;clear hcp0 hcp1 hcp2 hcp3 hcp4 hcp5 hcp6 hcp7 hcp8 hcp9 hcp10;obtain ⟨hcp0,hcp1,hcp2,hcp3,hcp4,hcp5,hcp6,hcp7,hcp8,hcp9,hcp10⟩:=c11_ BPc)|((with_reducible refine gate_dst (N:=5) rfl ?_);refine bx (N:=5) (cs:=#[.slice none 0 0,.int .i64 0,.string (⟨#[]⟩:ByteArray),.int .i64 0,.slice none 0 0,.int .i64 0,.bool false,.int .i64 0,.int .i64 0,.int .i64 0,.slice none 0 0]) (t:=36) ?_;intro go hg w4 hbox hb;have BOd:=Aside0.mk hbox;have BPd:=Aside0.mk (blk_below BPc.out hb);have BRd:=Aside0.mk (blk_below BRc.out hb);have HXd:=Aside0.mk (below_step HXc.out hb);have HRad:=Aside0.mk (Kd.R_below HRac.out hb);have HRbd:=Aside0.mk (Kd.R_below HRbc.out hb);have HRcd:=Aside0.mk (Kd.R_below HRcc.out hb);have GO:=Aside0.mk (show w.heap.size≤go by rw [hg];exact HXc.out.size);have NRO:=Aside0.mk (show gr≠go by rw [hg];exact Nat.ne_of_lt (blk_lt BRc.out));have NPO:=Aside0.mk (show gp≠go by rw [hg];exact Nat.ne_of_lt (blk_lt BPc.out));clear BPc BRc HXc HRac HRbc HRcc;clear hcp0 hcp1 hcp2 hcp3 hcp4 hcp5 hcp6 hcp7 hcp8 hcp9 hcp10;obtain ⟨hcp0,hcp1,hcp2,hcp3,hcp4,hcp5,hcp6,hcp7,hcp8,hcp9,hcp10⟩:=c11_ BPd;obtain ⟨hco0,hco1,hco2,hco3,hco4,hco5,hco6,hco7,hco8,hco9,hco10⟩:=c11_ BOd;have hcof0:=blk_frozen BOd.out 0;have hcof1:=blk_frozen BOd.out 1;have hcof2:=blk_frozen BOd.out 2;have hcof3:=blk_frozen BOd.out 3;have hcof4:=blk_frozen BOd.out 4;have hcof5:=blk_frozen BOd.out 5;have hcof6:=blk_frozen BOd.out 6;have hcof7:=blk_frozen BOd.out 7;have hcof8:=blk_frozen BOd.out 8;have hcof9:=blk_frozen BOd.out 9;have hcof10:=blk_frozen BOd.out 10;have hn1_:=NPO.out;have hn2_:go≠gp:=fun e_=>NPO.out e_.symm;clear hg hbox hb)|((with_reducible refine gate_callee (f:=64) rfl ?_);(try (refine gate_guard (by rfl) ?_;dsimp only));refine goesL_ (some 9) rfl rfl Try.func64 (by kernel_rfl) rfl #[.int .i64 a1,.int .i64 0,.int .i64 100000] rfl ml ?_;(with_reducible refine (impl_within.calls a1 0 100000 true _ HT.out).mono ?_);rintro e w6 ⟨rfl,⟨nd,hw6⟩⟩;refine ⟨_,rfl,?_⟩;have hb:Below ((((((((((((w4.setCell ⟨go,0,none⟩ (.slice Ao A1.length co)).setCell ⟨go,1,none⟩ (.int .i64 A3)).setCell ⟨go,2,none⟩ (.string A4)).setCell ⟨go,3,none⟩ (.int .i64 A5)).setCell ⟨go,4,none⟩ (.slice Av A2.length cv)).setCell ⟨go,5,none⟩ (.int .i64 A6)).setCell ⟨go,6,none⟩ (.bool A8)).setCell ⟨go,7,none⟩ (.int .i64 A9)).setCell ⟨go,8,none⟩ (.int .i64 Aa)).setCell ⟨go,9,none⟩ (.int .i64 Ab)).setCell ⟨go,10,none⟩ (.slice Am A0.length cm))).heap.size ((((((((((((w4.setCell ⟨go,0,none⟩ (.slice Ao A1.length co)).setCell ⟨go,1,none⟩ (.int .i64 A3)).setCell ⟨go,2,none⟩ (.string A4)).setCell ⟨go,3,none⟩ (.int .i64 A5)).setCell ⟨go,4,none⟩ (.slice Av A2.length cv)).setCell ⟨go,5,none⟩ (.int .i64 A6)).setCell ⟨go,6,none⟩ (.bool A8)).setCell ⟨go,7,none⟩ (.int .i64 A9)).setCell ⟨go,8,none⟩ (.int .i64 Aa)).setCell ⟨go,9,none⟩ (.int .i64 Ab)).setCell ⟨go,10,none⟩ (.slice Am A0.length cm))) w6:=(by rw [hw6];exact pw_below_drewN (Below.refl _ _) nd);have BOe:Aside0 ((((((((((((w4.setCell ⟨go,0,none⟩ (.slice Ao A1.length co)).setCell ⟨go,1,none⟩ (.int .i64 A3)).setCell ⟨go,2,none⟩ (.string A4)).setCell ⟨go,3,none⟩ (.int .i64 A5)).setCell ⟨go,4,none⟩ (.slice Av A2.length cv)).setCell ⟨go,5,none⟩ (.int .i64 A6)).setCell ⟨go,6,none⟩ (.bool A8)).setCell ⟨go,7,none⟩ (.int .i64 A9)).setCell ⟨go,8,none⟩ (.int .i64 Aa)).setCell ⟨go,9,none⟩ (.int .i64 Ab)).setCell ⟨go,10,none⟩ (.slice Am A0.length cm)).heap[go]? = some (.cells #[.slice Ao A1.length co,.int .i64 A3,.string A4,.int .i64 A5,.slice Av A2.length cv,.int .i64 A6,.bool A8,.int .i64 A9,.int .i64 Aa,.int .i64 Ab,.slice Am A0.length cm] 36 (0,0))):=⟨bp11 BOd.out⟩;have BPe:Aside0 ((((((((((((w4.setCell ⟨go,0,none⟩ (.slice Ao A1.length co)).setCell ⟨go,1,none⟩ (.int .i64 A3)).setCell ⟨go,2,none⟩ (.string A4)).setCell ⟨go,3,none⟩ (.int .i64 A5)).setCell ⟨go,4,none⟩ (.slice Av A2.length cv)).setCell ⟨go,5,none⟩ (.int .i64 A6)).setCell ⟨go,6,none⟩ (.bool A8)).setCell ⟨go,7,none⟩ (.int .i64 A9)).setCell ⟨go,8,none⟩ (.int .i64 Aa)).setCell ⟨go,9,none⟩ (.int .i64 Ab)).setCell ⟨go,10,none⟩ (.slice Am A0.length cm)).heap[gp]? = some (.cells #[.slice Ae A1.length Af,.int .i64 A3,.string A4,.int .i64 A5,.slice Ag A2.length Ah,.int .i64 A6,.bool A8,.int .i64 A9,.int .i64 Aa,.int .i64 Ab,.slice Ac A0.length Ad] 36 (0,0))):=⟨far11 BPd.out NPO.out⟩;have BRe:Aside0 ((((((((((((w4.setCell ⟨go,0,none⟩ (.slice Ao A1.length co)).setCell ⟨go,1,none⟩ (.int .i64 A3)).setCell ⟨go,2,none⟩ (.string A4)).setCell ⟨go,3,none⟩ (.int .i64 A5)).setCell ⟨go,4,none⟩ (.slice Av A2.length cv)).setCell ⟨go,5,none⟩ (.int .i64 A6)).setCell ⟨go,6,none⟩ (.bool A8)).setCell ⟨go,7,none⟩ (.int .i64 A9)).setCell ⟨go,8,none⟩ (.int .i64 Aa)).setCell ⟨go,9,none⟩ (.int .i64 Ab)).setCell ⟨go,10,none⟩ (.slice Am A0.length cm)).heap[gr]? = some (.cells #[.slice none 0 0,.int .i64 0,.string (⟨#[]⟩:ByteArray),.int .i64 0,.slice none 0 0,.int .i64 0,.bool false,.int .i64 0,.int .i64 0,.int .i64 0,.slice none 0 0] 36 (0,0))):=⟨far11 BRd.out NRO.out⟩;have HRae:Aside0 (Kd.R Kd.bool 4 (((((((((((w4.setCell ⟨go,0,none⟩ (.slice Ao A1.length co)).setCell ⟨go,1,none⟩ (.int .i64 A3)).setCell ⟨go,2,none⟩ (.string A4)).setCell ⟨go,3,none⟩ (.int .i64 A5)).setCell ⟨go,4,none⟩ (.slice Av A2.length cv)).setCell ⟨go,5,none⟩ (.int .i64 A6)).setCell ⟨go,6,none⟩ (.bool A8)).setCell ⟨go,7,none⟩ (.int .i64 A9)).setCell ⟨go,8,none⟩ (.int .i64 Aa)).setCell ⟨go,9,none⟩ (.int .i64 Ab)).setCell ⟨go,10,none⟩ (.slice Am A0.length cm)) w.heap.size (fun _=>True) (.slice Ao A1.length co) A1):=⟨R11 HRad.out BOd.out (by decide)⟩;have HRbe:Aside0 (Kd.R (Kd.int .i64) 3 (((((((((((w4.setCell ⟨go,0,none⟩ (.slice Ao A1.length co)).setCell ⟨go,1,none⟩ (.int .i64 A3)).setCell ⟨go,2,none⟩ (.string A4)).setCell ⟨go,3,none⟩ (.int .i64 A5)).setCell ⟨go,4,none⟩ (.slice Av A2.length cv)).setCell ⟨go,5,none⟩ (.int .i64 A6)).setCell ⟨go,6,none⟩ (.bool A8)).setCell ⟨go,7,none⟩ (.int .i64 A9)).setCell ⟨go,8,none⟩ (.int .i64 Aa)).setCell ⟨go,9,none⟩ (.int .i64 Ab)).setCell ⟨go,10,none⟩ (.slice Am A0.length cm)) w.heap.size (fun _=>True) (.slice Av A2.length cv) A2):=⟨R11 HRbd.out BOd.out (by decide)⟩;have HRce:Aside0 (Kd.R k86 86 (((((((((((w4.setCell ⟨go,0,none⟩ (.slice Ao A1.length co)).setCell ⟨go,1,none⟩ (.int .i64 A3)).setCell ⟨go,2,none⟩ (.string A4)).setCell ⟨go,3,none⟩ (.int .i64 A5)).setCell ⟨go,4,none⟩ (.slice Av A2.length cv)).setCell ⟨go,5,none⟩ (.int .i64 A6)).setCell ⟨go,6,none⟩ (.bool A8)).setCell ⟨go,7,none⟩ (.int .i64 A9)).setCell ⟨go,8,none⟩ (.int .i64 Aa)).setCell ⟨go,9,none⟩ (.int .i64 Ab)).setCell ⟨go,10,none⟩ (.slice Am A0.length cm)) w.heap.size (fun _=>True) (.slice Am A0.length cm) A0):=⟨R11 HRcd.out BOd.out (by decide)⟩;have HXe:Aside0 (Below w.heap.size w (((((((((((w4.setCell ⟨go,0,none⟩ (.slice Ao A1.length co)).setCell ⟨go,1,none⟩ (.int .i64 A3)).setCell ⟨go,2,none⟩ (.string A4)).setCell ⟨go,3,none⟩ (.int .i64 A5)).setCell ⟨go,4,none⟩ (.slice Av A2.length cv)).setCell ⟨go,5,none⟩ (.int .i64 A6)).setCell ⟨go,6,none⟩ (.bool A8)).setCell ⟨go,7,none⟩ (.int .i64 A9)).setCell ⟨go,8,none⟩ (.int .i64 Aa)).setCell ⟨go,9,none⟩ (.int .i64 Ab)).setCell ⟨go,10,none⟩ (.slice Am A0.length cm))):=⟨below11 HXd.out GO.out⟩;have BPf:=Aside0.mk (blk_below BPe.out hb);have BRf:=Aside0.mk (blk_below BRe.out hb);have BOf:=Aside0.mk (blk_below BOe.out hb);have HXf:=Aside0.mk (below_step HXe.out hb);have HRaf:=Aside0.mk (Kd.R_below HRae.out hb);have HRbf:=Aside0.mk (Kd.R_below HRbe.out hb);have HRcf:=Aside0.mk (Kd.R_below HRce.out hb);clear hb hw6 BOd BPd BRd HRad HRbd HRcd HXd BOe BPe BRe HRae HRbe HRce HXe;clear hn1_ hn2_;clear hcp0 hcp1 hcp2 hcp3 hcp4 hcp5 hcp6 hcp7 hcp8 hcp9 hcp10;clear hco0 hco1 hco2 hco3 hco4 hco5 hco6 hco7 hco8 hco9 hco10 hcof0 hcof1 hcof2 hcof3 hcof4 hcof5 hcof6 hcof7 hcof8 hcof9 hcof10;obtain ⟨hcp0,hcp1,hcp2,hcp3,hcp4,hcp5,hcp6,hcp7,hcp8,hcp9,hcp10⟩:=c11_ BPf;obtain ⟨hco0,hco1,hco2,hco3,hco4,hco5,hco6,hco7,hco8,hco9,hco10⟩:=c11_ BOf;obtain ⟨hcr0,hcr1,hcr2,hcr3,hcr4,hcr5,hcr6,hcr7,hcr8,hcr9,hcr10⟩:=c11_ BRf;have hcrf0:=blk_frozen BRf.out 0;have hcrf1:=blk_frozen BRf.out 1;have hcrf2:=blk_frozen BRf.out 2;have hcrf3:=blk_frozen BRf.out 3;have hcrf4:=blk_frozen BRf.out 4;have hcrf5:=blk_frozen BRf.out 5;have hcrf6:=blk_frozen BRf.out 6;have hcrf7:=blk_frozen BRf.out 7;have hcrf8:=blk_frozen BRf.out 8;have hcrf9:=blk_frozen BRf.out 9;have hcrf10:=blk_frozen BRf.out 10)|((with_reducible refine gate_callee (f:=32) rfl ?_);(try (refine gate_guard (by rfl) ?_;dsimp only));refine goesL_ (some 13) rfl rfl Try.func32 (by kernel_rfl) rfl #[.agg #[.slice Ae A1.length Af,.int .i64 A3,.string A4,.int .i64 A5,.slice Ag A2.length Ah,.int .i64 A6,.bool A8,.int .i64 A9,.int .i64 Aa,.int .i64 Ab,.slice Ac A0.length Ad]] rfl ml ?_;(with_reducible refine (impl_MachineOk.calls k Ae Af A1 A3 A4 A5 Ag Ah A2 A6 A8 A9 Aa Ab Ac Ad A0 false _ (Kd.C_below HR0.out HXf.out) HC.out.1 (Kd.C_below HR4.out HXf.out) HC.out.2.1 (Kd.C_below HR10.out HXf.out) HC.out.2.2 HOK.out).mono ?_);rintro e w7 ⟨rfl,hb⟩;refine ⟨_,rfl,?_⟩;have BPg:=Aside0.mk (blk_below BPf.out hb);have BRg:=Aside0.mk (blk_below BRf.out hb);have BOg:=Aside0.mk (blk_below BOf.out hb);have HXg:=Aside0.mk (below_step HXf.out hb);have HRag:=Aside0.mk (Kd.R_below HRaf.out hb);have HRbg:=Aside0.mk (Kd.R_below HRbf.out hb);have HRcg:=Aside0.mk (Kd.R_below HRcf.out hb);clear hb BPf BRf BOf HXf HRaf HRbf HRcf;clear hcp0 hcp1 hcp2 hcp3 hcp4 hcp5 hcp6 hcp7 hcp8 hcp9 hcp10;clear hco0 hco1 hco2 hco3 hco4 hco5 hco6 hco7 hco8 hco9 hco10;clear hcr0 hcr1 hcr2 hcr3 hcr4 hcr5 hcr6 hcr7 hcr8 hcr9 hcr10 hcrf0 hcrf1 hcrf2 hcrf3 hcrf4 hcrf5 hcrf6 hcrf7 hcrf8 hcrf9 hcrf10;obtain ⟨hcp0,hcp1,hcp2,hcp3,hcp4,hcp5,hcp6,hcp7,hcp8,hcp9,hcp10⟩:=c11_ BPg;obtain ⟨hco0,hco1,hco2,hco3,hco4,hco5,hco6,hco7,hco8,hco9,hco10⟩:=c11_ BOg;obtain ⟨hcr0,hcr1,hcr2,hcr3,hcr4,hcr5,hcr6,hcr7,hcr8,hcr9,hcr10⟩:=c11_ BRg;have hcrf0:=blk_frozen BRg.out 0;have hcrf1:=blk_frozen BRg.out 1;have hcrf2:=blk_frozen BRg.out 2;have hcrf3:=blk_frozen BRg.out 3;have hcrf4:=blk_frozen BRg.out 4;have hcrf5:=blk_frozen BRg.out 5;have hcrf6:=blk_frozen BRg.out 6;have hcrf7:=blk_frozen BRg.out 7;have hcrf8:=blk_frozen BRg.out 8;have hcrf9:=blk_frozen BRg.out 9;have hcrf10:=blk_frozen BRg.out 10))
  refine bodyPost_ret (results_cell_row rfl _ _ gr 36 #[.slice Ao A1.length co,.int .i64 A3,.string A4,.int .i64 A5,.slice Av A2.length cv,.int .i64 A6,.bool A8,.int .i64 A9,.int .i64 Aa,.int .i64 Ab,.slice Am A0.length cm] (0,0) _ rfl (bp11 BRg.out) Try.underlying36 rfl (by kernel_rfl)) rfl ?_
  exact ⟨.slice Ao A1.length co,.slice Av A2.length cv,.slice Am A0.length cm,rfl,R11 HRag.out BRg.out (by decide),R11 HRbg.out BRg.out (by decide),R11 HRcg.out BRg.out (by decide),below11 HXg.out GR.out⟩
  | true =>
 rw [if_pos rfl] at h
 obtain ⟨M,hm,h⟩:=Option.bind_eq_some_iff.1 h
 by_cases cM:M.r.length < 140737488355328∧M.v.length < 17592186044416∧M.memo.length < 5864062014805
 case neg=>rw [if_neg cM] at h;cases h
 rw [if_pos cM] at h
 simp only [Option.some.injEq,Prod.mk.injEq] at h
 obtain ⟨rfl,rfl,rfl,rfl,rfl,rfl,rfl,rfl,rfl,rfl,rfl⟩:=h
 have HM:=Aside0.mk hm;have HCM:=Aside0.mk (copyM_eq (a0_1:=M.N) (a0_2:=M.s) (a0_3:=M.room) (a0_5:=M.ret) (a0_6:=M.over) (a0_7:=M.st) (a0_8:=M.lo) (a0_9:=M.hi) cM);clear hm cM
 go_enter Try.func41,Try.ntmps41
 go_wp2_with (first|((with_reducible refine gate_dst (N:=2) rfl ?_);refine bx (N:=2) (cs:=#[.slice Ae A1.length Af,.int .i64 A3,.string A4,.int .i64 A5,.slice Ag A2.length Ah,.int .i64 A6,.bool A8,.int .i64 A9,.int .i64 Aa,.int .i64 Ab,.slice Ac A0.length Ad]) (t:=36) ?_;intro gp hg w1 hbox hb;have BPa:=Aside0.mk hbox;have HXa:=Aside0.mk hb;obtain ⟨hcp0,hcp1,hcp2,hcp3,hcp4,hcp5,hcp6,hcp7,hcp8,hcp9,hcp10⟩:=c11_ BPa;clear hg hbox hb)|((with_reducible refine gate_dst (N:=4) rfl ?_);refine bx (N:=4) (cs:=#[.slice none 0 0,.int .i64 0,.string (⟨#[]⟩:ByteArray),.int .i64 0,.slice none 0 0,.int .i64 0,.bool false,.int .i64 0,.int .i64 0,.int .i64 0,.slice none 0 0]) (t:=36) ?_;intro gr hg w2 hbox hb;have BRb:=Aside0.mk hbox;have HXb:=Aside0.mk (below_step HXa.out hb);have BPb:=Aside0.mk (blk_below BPa.out hb);have GR:=Aside0.mk (show w.heap.size≤gr by rw [hg];exact HXa.out.size);clear BPa HXa;clear hcp0 hcp1 hcp2 hcp3 hcp4 hcp5 hcp6 hcp7 hcp8 hcp9 hcp10;obtain ⟨hcp0,hcp1,hcp2,hcp3,hcp4,hcp5,hcp6,hcp7,hcp8,hcp9,hcp10⟩:=c11_ BPb;clear hg hbox hb)|((with_reducible refine gate_callee (f:=83) rfl ?_);(try (refine gate_guard (by rfl) ?_;dsimp only));refine goesL_ (some 7) rfl rfl Try.func83 (by kernel_rfl) rfl #[.agg #[.slice Ae A1.length Af,.int .i64 A3,.string A4,.int .i64 A5,.slice Ag A2.length Ah,.int .i64 A6,.bool A8,.int .i64 A9,.int .i64 Aa,.int .i64 Ab,.slice Ac A0.length Ad]] rfl ml ?_;(with_reducible refine (impl_copyMachine.calls Ae Af A1 A3 A4 A5 Ag Ah A2 A6 A8 A9 Aa Ab Ac Ad A0 A1 A3 A4 A5 A2 A6 A8 A9 Aa Ab A0 _ (Kd.C_below HR0.out HXb.out) HC.out.1 (Kd.C_below HR4.out HXb.out) HC.out.2.1 (Kd.C_below HR10.out HXb.out) HC.out.2.2 HCP.out).mono ?_);rintro e w3 ⟨va,vb,vc,rfl,hra,hrb,hrc,hb⟩;refine ⟨_,rfl,?_⟩;obtain ⟨Ao,co,ea⟩:=Kd.R_slice hra;subst ea;obtain ⟨Av,cv,eb⟩:=Kd.R_slice hrb;subst eb;obtain ⟨Am,cm,ec⟩:=Kd.R_slice hrc;subst ec;have HRac:=Aside0.mk (Kd.R_lower hra HXb.out.size);have HRbc:=Aside0.mk (Kd.R_lower hrb HXb.out.size);have HRcc:=Aside0.mk (Kd.R_lower hrc HXb.out.size);have BPc:=Aside0.mk (blk_below BPb.out hb);have BRc:=Aside0.mk (blk_below BRb.out hb);have HXc:=Aside0.mk (below_step HXb.out hb);clear hra hrb hrc hb BPb BRb HXb;clear hcp0 hcp1 hcp2 hcp3 hcp4 hcp5 hcp6 hcp7 hcp8 hcp9 hcp10;obtain ⟨hcp0,hcp1,hcp2,hcp3,hcp4,hcp5,hcp6,hcp7,hcp8,hcp9,hcp10⟩:=c11_ BPc)|((with_reducible refine gate_dst (N:=5) rfl ?_);refine bx (N:=5) (cs:=#[.slice none 0 0,.int .i64 0,.string (⟨#[]⟩:ByteArray),.int .i64 0,.slice none 0 0,.int .i64 0,.bool false,.int .i64 0,.int .i64 0,.int .i64 0,.slice none 0 0]) (t:=36) ?_;intro go hg w4 hbox hb;have BOd:=Aside0.mk hbox;have BPd:=Aside0.mk (blk_below BPc.out hb);have BRd:=Aside0.mk (blk_below BRc.out hb);have HXd:=Aside0.mk (below_step HXc.out hb);have HRad:=Aside0.mk (Kd.R_below HRac.out hb);have HRbd:=Aside0.mk (Kd.R_below HRbc.out hb);have HRcd:=Aside0.mk (Kd.R_below HRcc.out hb);have GO:=Aside0.mk (show w.heap.size≤go by rw [hg];exact HXc.out.size);have NRO:=Aside0.mk (show gr≠go by rw [hg];exact Nat.ne_of_lt (blk_lt BRc.out));have NPO:=Aside0.mk (show gp≠go by rw [hg];exact Nat.ne_of_lt (blk_lt BPc.out));clear BPc BRc HXc HRac HRbc HRcc;clear hcp0 hcp1 hcp2 hcp3 hcp4 hcp5 hcp6 hcp7 hcp8 hcp9 hcp10;obtain ⟨hcp0,hcp1,hcp2,hcp3,hcp4,hcp5,hcp6,hcp7,hcp8,hcp9,hcp10⟩:=c11_ BPd;obtain ⟨hco0,hco1,hco2,hco3,hco4,hco5,hco6,hco7,hco8,hco9,hco10⟩:=c11_ BOd;have hcof0:=blk_frozen BOd.out 0;have hcof1:=blk_frozen BOd.out 1;have hcof2:=blk_frozen BOd.out 2;have hcof3:=blk_frozen BOd.out 3;have hcof4:=blk_frozen BOd.out 4;have hcof5:=blk_frozen BOd.out 5;have hcof6:=blk_frozen BOd.out 6;have hcof7:=blk_frozen BOd.out 7;have hcof8:=blk_frozen BOd.out 8;have hcof9:=blk_frozen BOd.out 9;have hcof10:=blk_frozen BOd.out 10;have hn1_:=NPO.out;have hn2_:go≠gp:=fun e_=>NPO.out e_.symm;clear hg hbox hb)|((with_reducible refine gate_callee (f:=64) rfl ?_);(try (refine gate_guard (by rfl) ?_;dsimp only));refine goesL_ (some 9) rfl rfl Try.func64 (by kernel_rfl) rfl #[.int .i64 a1,.int .i64 0,.int .i64 100000] rfl ml ?_;(with_reducible refine (impl_within.calls a1 0 100000 true _ HT.out).mono ?_);rintro e w6 ⟨rfl,⟨nd,hw6⟩⟩;refine ⟨_,rfl,?_⟩;have hb:Below ((((((((((((w4.setCell ⟨go,0,none⟩ (.slice Ao A1.length co)).setCell ⟨go,1,none⟩ (.int .i64 A3)).setCell ⟨go,2,none⟩ (.string A4)).setCell ⟨go,3,none⟩ (.int .i64 A5)).setCell ⟨go,4,none⟩ (.slice Av A2.length cv)).setCell ⟨go,5,none⟩ (.int .i64 A6)).setCell ⟨go,6,none⟩ (.bool A8)).setCell ⟨go,7,none⟩ (.int .i64 A9)).setCell ⟨go,8,none⟩ (.int .i64 Aa)).setCell ⟨go,9,none⟩ (.int .i64 Ab)).setCell ⟨go,10,none⟩ (.slice Am A0.length cm))).heap.size ((((((((((((w4.setCell ⟨go,0,none⟩ (.slice Ao A1.length co)).setCell ⟨go,1,none⟩ (.int .i64 A3)).setCell ⟨go,2,none⟩ (.string A4)).setCell ⟨go,3,none⟩ (.int .i64 A5)).setCell ⟨go,4,none⟩ (.slice Av A2.length cv)).setCell ⟨go,5,none⟩ (.int .i64 A6)).setCell ⟨go,6,none⟩ (.bool A8)).setCell ⟨go,7,none⟩ (.int .i64 A9)).setCell ⟨go,8,none⟩ (.int .i64 Aa)).setCell ⟨go,9,none⟩ (.int .i64 Ab)).setCell ⟨go,10,none⟩ (.slice Am A0.length cm))) w6:=(by rw [hw6];exact pw_below_drewN (Below.refl _ _) nd);have BOe:Aside0 ((((((((((((w4.setCell ⟨go,0,none⟩ (.slice Ao A1.length co)).setCell ⟨go,1,none⟩ (.int .i64 A3)).setCell ⟨go,2,none⟩ (.string A4)).setCell ⟨go,3,none⟩ (.int .i64 A5)).setCell ⟨go,4,none⟩ (.slice Av A2.length cv)).setCell ⟨go,5,none⟩ (.int .i64 A6)).setCell ⟨go,6,none⟩ (.bool A8)).setCell ⟨go,7,none⟩ (.int .i64 A9)).setCell ⟨go,8,none⟩ (.int .i64 Aa)).setCell ⟨go,9,none⟩ (.int .i64 Ab)).setCell ⟨go,10,none⟩ (.slice Am A0.length cm)).heap[go]? = some (.cells #[.slice Ao A1.length co,.int .i64 A3,.string A4,.int .i64 A5,.slice Av A2.length cv,.int .i64 A6,.bool A8,.int .i64 A9,.int .i64 Aa,.int .i64 Ab,.slice Am A0.length cm] 36 (0,0))):=⟨bp11 BOd.out⟩;have BPe:Aside0 ((((((((((((w4.setCell ⟨go,0,none⟩ (.slice Ao A1.length co)).setCell ⟨go,1,none⟩ (.int .i64 A3)).setCell ⟨go,2,none⟩ (.string A4)).setCell ⟨go,3,none⟩ (.int .i64 A5)).setCell ⟨go,4,none⟩ (.slice Av A2.length cv)).setCell ⟨go,5,none⟩ (.int .i64 A6)).setCell ⟨go,6,none⟩ (.bool A8)).setCell ⟨go,7,none⟩ (.int .i64 A9)).setCell ⟨go,8,none⟩ (.int .i64 Aa)).setCell ⟨go,9,none⟩ (.int .i64 Ab)).setCell ⟨go,10,none⟩ (.slice Am A0.length cm)).heap[gp]? = some (.cells #[.slice Ae A1.length Af,.int .i64 A3,.string A4,.int .i64 A5,.slice Ag A2.length Ah,.int .i64 A6,.bool A8,.int .i64 A9,.int .i64 Aa,.int .i64 Ab,.slice Ac A0.length Ad] 36 (0,0))):=⟨far11 BPd.out NPO.out⟩;have BRe:Aside0 ((((((((((((w4.setCell ⟨go,0,none⟩ (.slice Ao A1.length co)).setCell ⟨go,1,none⟩ (.int .i64 A3)).setCell ⟨go,2,none⟩ (.string A4)).setCell ⟨go,3,none⟩ (.int .i64 A5)).setCell ⟨go,4,none⟩ (.slice Av A2.length cv)).setCell ⟨go,5,none⟩ (.int .i64 A6)).setCell ⟨go,6,none⟩ (.bool A8)).setCell ⟨go,7,none⟩ (.int .i64 A9)).setCell ⟨go,8,none⟩ (.int .i64 Aa)).setCell ⟨go,9,none⟩ (.int .i64 Ab)).setCell ⟨go,10,none⟩ (.slice Am A0.length cm)).heap[gr]? = some (.cells #[.slice none 0 0,.int .i64 0,.string (⟨#[]⟩:ByteArray),.int .i64 0,.slice none 0 0,.int .i64 0,.bool false,.int .i64 0,.int .i64 0,.int .i64 0,.slice none 0 0] 36 (0,0))):=⟨far11 BRd.out NRO.out⟩;have HRae:Aside0 (Kd.R Kd.bool 4 (((((((((((w4.setCell ⟨go,0,none⟩ (.slice Ao A1.length co)).setCell ⟨go,1,none⟩ (.int .i64 A3)).setCell ⟨go,2,none⟩ (.string A4)).setCell ⟨go,3,none⟩ (.int .i64 A5)).setCell ⟨go,4,none⟩ (.slice Av A2.length cv)).setCell ⟨go,5,none⟩ (.int .i64 A6)).setCell ⟨go,6,none⟩ (.bool A8)).setCell ⟨go,7,none⟩ (.int .i64 A9)).setCell ⟨go,8,none⟩ (.int .i64 Aa)).setCell ⟨go,9,none⟩ (.int .i64 Ab)).setCell ⟨go,10,none⟩ (.slice Am A0.length cm)) w.heap.size (fun _=>True) (.slice Ao A1.length co) A1):=⟨R11 HRad.out BOd.out (by decide)⟩;have HRbe:Aside0 (Kd.R (Kd.int .i64) 3 (((((((((((w4.setCell ⟨go,0,none⟩ (.slice Ao A1.length co)).setCell ⟨go,1,none⟩ (.int .i64 A3)).setCell ⟨go,2,none⟩ (.string A4)).setCell ⟨go,3,none⟩ (.int .i64 A5)).setCell ⟨go,4,none⟩ (.slice Av A2.length cv)).setCell ⟨go,5,none⟩ (.int .i64 A6)).setCell ⟨go,6,none⟩ (.bool A8)).setCell ⟨go,7,none⟩ (.int .i64 A9)).setCell ⟨go,8,none⟩ (.int .i64 Aa)).setCell ⟨go,9,none⟩ (.int .i64 Ab)).setCell ⟨go,10,none⟩ (.slice Am A0.length cm)) w.heap.size (fun _=>True) (.slice Av A2.length cv) A2):=⟨R11 HRbd.out BOd.out (by decide)⟩;have HRce:Aside0 (Kd.R k86 86 (((((((((((w4.setCell ⟨go,0,none⟩ (.slice Ao A1.length co)).setCell ⟨go,1,none⟩ (.int .i64 A3)).setCell ⟨go,2,none⟩ (.string A4)).setCell ⟨go,3,none⟩ (.int .i64 A5)).setCell ⟨go,4,none⟩ (.slice Av A2.length cv)).setCell ⟨go,5,none⟩ (.int .i64 A6)).setCell ⟨go,6,none⟩ (.bool A8)).setCell ⟨go,7,none⟩ (.int .i64 A9)).setCell ⟨go,8,none⟩ (.int .i64 Aa)).setCell ⟨go,9,none⟩ (.int .i64 Ab)).setCell ⟨go,10,none⟩ (.slice Am A0.length cm)) w.heap.size (fun _=>True) (.slice Am A0.length cm) A0):=⟨R11 HRcd.out BOd.out (by decide)⟩;have HXe:Aside0 (Below w.heap.size w (((((((((((w4.setCell ⟨go,0,none⟩ (.slice Ao A1.length co)).setCell ⟨go,1,none⟩ (.int .i64 A3)).setCell ⟨go,2,none⟩ (.string A4)).setCell ⟨go,3,none⟩ (.int .i64 A5)).setCell ⟨go,4,none⟩ (.slice Av A2.length cv)).setCell ⟨go,5,none⟩ (.int .i64 A6)).setCell ⟨go,6,none⟩ (.bool A8)).setCell ⟨go,7,none⟩ (.int .i64 A9)).setCell ⟨go,8,none⟩ (.int .i64 Aa)).setCell ⟨go,9,none⟩ (.int .i64 Ab)).setCell ⟨go,10,none⟩ (.slice Am A0.length cm))):=⟨below11 HXd.out GO.out⟩;have BPf:=Aside0.mk (blk_below BPe.out hb);have BRf:=Aside0.mk (blk_below BRe.out hb);have BOf:=Aside0.mk (blk_below BOe.out hb);have HXf:=Aside0.mk (below_step HXe.out hb);have HRaf:=Aside0.mk (Kd.R_below HRae.out hb);have HRbf:=Aside0.mk (Kd.R_below HRbe.out hb);have HRcf:=Aside0.mk (Kd.R_below HRce.out hb);clear hb hw6 BOd BPd BRd HRad HRbd HRcd HXd BOe BPe BRe HRae HRbe HRce HXe;clear hn1_ hn2_;clear hcp0 hcp1 hcp2 hcp3 hcp4 hcp5 hcp6 hcp7 hcp8 hcp9 hcp10;clear hco0 hco1 hco2 hco3 hco4 hco5 hco6 hco7 hco8 hco9 hco10 hcof0 hcof1 hcof2 hcof3 hcof4 hcof5 hcof6 hcof7 hcof8 hcof9 hcof10;obtain ⟨hcp0,hcp1,hcp2,hcp3,hcp4,hcp5,hcp6,hcp7,hcp8,hcp9,hcp10⟩:=c11_ BPf;obtain ⟨hco0,hco1,hco2,hco3,hco4,hco5,hco6,hco7,hco8,hco9,hco10⟩:=c11_ BOf;obtain ⟨hcr0,hcr1,hcr2,hcr3,hcr4,hcr5,hcr6,hcr7,hcr8,hcr9,hcr10⟩:=c11_ BRf;have hcrf0:=blk_frozen BRf.out 0;have hcrf1:=blk_frozen BRf.out 1;have hcrf2:=blk_frozen BRf.out 2;have hcrf3:=blk_frozen BRf.out 3;have hcrf4:=blk_frozen BRf.out 4;have hcrf5:=blk_frozen BRf.out 5;have hcrf6:=blk_frozen BRf.out 6;have hcrf7:=blk_frozen BRf.out 7;have hcrf8:=blk_frozen BRf.out 8;have hcrf9:=blk_frozen BRf.out 9;have hcrf10:=blk_frozen BRf.out 10)|((with_reducible refine gate_callee (f:=32) rfl ?_);(try (refine gate_guard (by rfl) ?_;dsimp only));refine goesL_ (some 13) rfl rfl Try.func32 (by kernel_rfl) rfl #[.agg #[.slice Ae A1.length Af,.int .i64 A3,.string A4,.int .i64 A5,.slice Ag A2.length Ah,.int .i64 A6,.bool A8,.int .i64 A9,.int .i64 Aa,.int .i64 Ab,.slice Ac A0.length Ad]] rfl ml ?_;(with_reducible refine (impl_MachineOk.calls k Ae Af A1 A3 A4 A5 Ag Ah A2 A6 A8 A9 Aa Ab Ac Ad A0 true _ (Kd.C_below HR0.out HXf.out) HC.out.1 (Kd.C_below HR4.out HXf.out) HC.out.2.1 (Kd.C_below HR10.out HXf.out) HC.out.2.2 HOK.out).mono ?_);rintro e w7 ⟨rfl,hb⟩;refine ⟨_,rfl,?_⟩;have BPg:=Aside0.mk (blk_below BPf.out hb);have BRg:=Aside0.mk (blk_below BRf.out hb);have BOg:=Aside0.mk (blk_below BOf.out hb);have HXg:=Aside0.mk (below_step HXf.out hb);have HRag:=Aside0.mk (Kd.R_below HRaf.out hb);have HRbg:=Aside0.mk (Kd.R_below HRbf.out hb);have HRcg:=Aside0.mk (Kd.R_below HRcf.out hb);clear hb BPf BRf BOf HXf HRaf HRbf HRcf;clear hcp0 hcp1 hcp2 hcp3 hcp4 hcp5 hcp6 hcp7 hcp8 hcp9 hcp10;clear hco0 hco1 hco2 hco3 hco4 hco5 hco6 hco7 hco8 hco9 hco10;clear hcr0 hcr1 hcr2 hcr3 hcr4 hcr5 hcr6 hcr7 hcr8 hcr9 hcr10 hcrf0 hcrf1 hcrf2 hcrf3 hcrf4 hcrf5 hcrf6 hcrf7 hcrf8 hcrf9 hcrf10;obtain ⟨hcp0,hcp1,hcp2,hcp3,hcp4,hcp5,hcp6,hcp7,hcp8,hcp9,hcp10⟩:=c11_ BPg;obtain ⟨hco0,hco1,hco2,hco3,hco4,hco5,hco6,hco7,hco8,hco9,hco10⟩:=c11_ BOg;obtain ⟨hcr0,hcr1,hcr2,hcr3,hcr4,hcr5,hcr6,hcr7,hcr8,hcr9,hcr10⟩:=c11_ BRg;have hcrf0:=blk_frozen BRg.out 0;have hcrf1:=blk_frozen BRg.out 1;have hcrf2:=blk_frozen BRg.out 2;have hcrf3:=blk_frozen BRg.out 3;have hcrf4:=blk_frozen BRg.out 4;have hcrf5:=blk_frozen BRg.out 5;have hcrf6:=blk_frozen BRg.out 6;have hcrf7:=blk_frozen BRg.out 7;have hcrf8:=blk_frozen BRg.out 8;have hcrf9:=blk_frozen BRg.out 9;have hcrf10:=blk_frozen BRg.out 10))
 have HIM:Aside0 (IsMx w7 w.heap.size go ⟨A1,A3,A4,A5,A2,A6,A8,A9,Aa,Ab,A0⟩):=⟨IsM.x ⟨BOg.out,⟨HRag.out,HRbg.out,Kd.Q_of_R HRcg.out⟩,GO.out⟩⟩;clear BPg HRag HRbg HRcg BOg;clear hcp0 hcp1 hcp2 hcp3 hcp4 hcp5 hcp6 hcp7 hcp8 hcp9 hcp10;clear hco0 hco1 hco2 hco3 hco4 hco5 hco6 hco7 hco8 hco9 hco10;clear hcr0 hcr1 hcr2 hcr3 hcr4 hcr5 hcr6 hcr7 hcr8 hcr9 hcr10 hcrf0 hcrf1 hcrf2 hcrf3 hcrf4 hcrf5 hcrf6 hcrf7 hcrf8 hcrf9 hcrf10
 go_loopg [18] k (fun kq v18 wr=>∃ (x:Int) (M0:MS),v18 = .int .i64 x∧Aside0 (runF kq M0 x a1=some M)∧Aside0 (kq≤k)∧Aside0 (IsMx wr w.heap.size go M0)∧Aside0 (Below w.heap.size w wr)∧Aside0 (wr.heap[gr]? = some (.cells #[.slice none 0 0,.int .i64 0,.string (⟨#[]⟩:ByteArray),.int .i64 0,.slice none 0 0,.int .i64 0,.bool false,.int .i64 0,.int .i64 0,.int .i64 0,.slice none 0 0] 36 (0,0))))
 case atStart=>exact ⟨0,_,rfl,HM,⟨Nat.le_refl _⟩,HIM,HXg,BRg⟩
 case round =>
  clear HM HIM HXg BRg
  obtain ⟨x,M0,rfl,HA,HK1,HIM,HXh,BRh⟩:=hrel
  cases gk with
    | zero=>exact absurd HA.out (by simp [runF])
    | succ k1 =>
   have H:=HA.out;clear HA
   simp only [runF] at H
   by_cases c3:x < a1
   ·rw [if_pos c3] at H
    have d3:decide (x < a1)=true:=decide_eq_true c3;clear c3
    obtain ⟨⟨M1,b⟩,hs,H⟩:=Option.bind_eq_some_iff.1 H
    have HS:=Aside0.mk hs;clear hs
    dsimp only at H
    cases b with
        | true =>
     rw [if_pos rfl] at H
     have H':=Aside0.mk H
     clear H
     go_wp2_with (first|((with_reducible refine gate_callee (f:=84) rfl ?_);(try (refine gate_guard (by rfl) ?_;dsimp only));refine goesL_ (some 20) rfl rfl Try.func84 (by kernel_rfl) rfl #[.pointer (some ⟨go,0,none⟩)] rfl ml ?_;(with_reducible refine (machine_step.calls k1 w go M0 (M1,true) _ HIM.out HXh.out HS.out).mono ?_);rintro e w9 ⟨rfl,hI,hB,hF⟩;refine ⟨_,rfl,?_⟩;have HI2:=Aside0.mk hI;have HX2:=Aside0.mk hB;have BR2:=Aside0.mk (hF gr _ 36 NRO.out (by decide) (by decide) BRh.out);clear hI hB hF HIM HXh BRh))
     go_roundg k1
     case measure=>have:=HK1.out;omega
     case rel=>exact ⟨wrap64 (x + 1),M1,rfl,H',⟨by have:=HK1.out;omega⟩,HI2,HX2,BR2⟩
        | false =>
     rw [if_neg (by decide)] at H
     obtain rfl:M=M1:=(Option.some.inj H).symm
     clear H
     go_wp2_with (first|((with_reducible refine gate_callee (f:=84) rfl ?_);(try (refine gate_guard (by rfl) ?_;dsimp only));refine goesL_ (some 20) rfl rfl Try.func84 (by kernel_rfl) rfl #[.pointer (some ⟨go,0,none⟩)] rfl ml ?_;(with_reducible refine (machine_step.calls k1 w go M0 (M,false) _ HIM.out HXh.out HS.out).mono ?_);rintro e w9 ⟨rfl,hI,hB,hF⟩;refine ⟨_,rfl,?_⟩;have HI2:=Aside0.mk hI;have HX2:=Aside0.mk hB;have BR2:=Aside0.mk (hF gr _ 36 NRO.out (by decide) (by decide) BRh.out);clear hI hB hF HIM HXh BRh;obtain ⟨Ax,cx,Ay,cy,Az,cz,hM2⟩:=HI2.out;have BM2:=Aside0.mk hM2.blk;have R32:=Aside0.mk hM2.rows;clear hM2 HI2;obtain ⟨hcm0,hcm1,hcm2,hcm3,hcm4,hcm5,hcm6,hcm7,hcm8,hcm9,hcm10⟩:=c11_ BM2;obtain ⟨hcr0,hcr1,hcr2,hcr3,hcr4,hcr5,hcr6,hcr7,hcr8,hcr9,hcr10⟩:=c11_ BR2;have hcrf0:=blk_frozen BR2.out 0;have hcrf1:=blk_frozen BR2.out 1;have hcrf2:=blk_frozen BR2.out 2;have hcrf3:=blk_frozen BR2.out 3;have hcrf4:=blk_frozen BR2.out 4;have hcrf5:=blk_frozen BR2.out 5;have hcrf6:=blk_frozen BR2.out 6;have hcrf7:=blk_frozen BR2.out 7;have hcrf8:=blk_frozen BR2.out 8;have hcrf9:=blk_frozen BR2.out 9;have hcrf10:=blk_frozen BR2.out 10)|((with_reducible refine gate_callee (f:=83) rfl ?_);(try (refine gate_guard (by rfl) ?_;dsimp only));refine goesL_ (some 24) rfl rfl Try.func83 (by kernel_rfl) rfl #[.agg #[.slice Ax M.r.length cx,.int .i64 M.N,.string M.s,.int .i64 M.room,.slice Ay M.v.length cy,.int .i64 M.ret,.bool M.over,.int .i64 M.st,.int .i64 M.lo,.int .i64 M.hi,.slice Az M.memo.length cz]] rfl ml ?_;(with_reducible refine (impl_copyMachine.calls Ax cx M.r M.N M.s M.room Ay cy M.v M.ret M.over M.st M.lo M.hi Az cz M.memo M.r M.N M.s M.room M.v M.ret M.over M.st M.lo M.hi M.memo _ (Kd.R_reads' R32.out.row).2.2 (Kd.R_reads' R32.out.row).2.1 (Kd.R_reads' R32.out.vals).2.2 (Kd.R_reads' R32.out.vals).2.1 (Kd.Q_reads' R32.out.memo).2.2 (Kd.Q_reads' R32.out.memo).2.1 HCM.out).mono ?_);rintro e w10 ⟨va,vb,vc,rfl,hra,hrb,hrc,hb⟩;refine ⟨_,rfl,?_⟩;obtain ⟨A7,c7,ea⟩:=Kd.R_slice hra;subst ea;obtain ⟨B7,d7,eb⟩:=Kd.R_slice hrb;subst eb;obtain ⟨D7,e7,ec⟩:=Kd.R_slice hrc;subst ec;have HR7a:=Aside0.mk (Kd.R_lower hra HX2.out.size);have HR7b:=Aside0.mk (Kd.R_lower hrb HX2.out.size);have HR7c:=Aside0.mk (Kd.R_lower hrc HX2.out.size);have HX7:=Aside0.mk (below_step HX2.out hb);have BR7:=Aside0.mk (blk_below BR2.out hb);clear hra hrb hrc hb;clear hcm0 hcm1 hcm2 hcm3 hcm4 hcm5 hcm6 hcm7 hcm8 hcm9 hcm10;clear hcr0 hcr1 hcr2 hcr3 hcr4 hcr5 hcr6 hcr7 hcr8 hcr9 hcr10 hcrf0 hcrf1 hcrf2 hcrf3 hcrf4 hcrf5 hcrf6 hcrf7 hcrf8 hcrf9 hcrf10;obtain ⟨hcr0,hcr1,hcr2,hcr3,hcr4,hcr5,hcr6,hcr7,hcr8,hcr9,hcr10⟩:=c11_ BR7;have hcrf0:=blk_frozen BR7.out 0;have hcrf1:=blk_frozen BR7.out 1;have hcrf2:=blk_frozen BR7.out 2;have hcrf3:=blk_frozen BR7.out 3;have hcrf4:=blk_frozen BR7.out 4;have hcrf5:=blk_frozen BR7.out 5;have hcrf6:=blk_frozen BR7.out 6;have hcrf7:=blk_frozen BR7.out 7;have hcrf8:=blk_frozen BR7.out 8;have hcrf9:=blk_frozen BR7.out 9;have hcrf10:=blk_frozen BR7.out 10))
     refine bodyPost_ret (results_cell_row rfl _ _ gr 36 #[.slice A7 M.r.length c7,.int .i64 M.N,.string M.s,.int .i64 M.room,.slice B7 M.v.length d7,.int .i64 M.ret,.bool M.over,.int .i64 M.st,.int .i64 M.lo,.int .i64 M.hi,.slice D7 M.memo.length e7] (0,0) _ rfl (bp11 BR7.out) Try.underlying36 rfl (by kernel_rfl)) rfl ?_
     exact ⟨.slice A7 M.r.length c7,.slice B7 M.v.length d7,.slice D7 M.memo.length e7,rfl,R11 HR7a.out BR7.out (by decide),R11 HR7b.out BR7.out (by decide),R11 HR7c.out BR7.out (by decide),below11 HX7.out GR.out⟩
   ·rw [if_neg c3] at H
    obtain rfl:M=M0:=(Option.some.inj H).symm
    have d3:decide (x < a1)=false:=decide_eq_false c3;clear c3 H;have HI2:=HIM;have HX2:=HXh;have BR2:=BRh;clear HIM HXh BRh
    obtain ⟨Ax,cx,Ay,cy,Az,cz,hM2⟩:=HI2.out
    have BM2:=Aside0.mk hM2.blk;have R32:=Aside0.mk hM2.rows;clear hM2 HI2;obtain ⟨hcm0,hcm1,hcm2,hcm3,hcm4,hcm5,hcm6,hcm7,hcm8,hcm9,hcm10⟩:=c11_ BM2;obtain ⟨hcr0,hcr1,hcr2,hcr3,hcr4,hcr5,hcr6,hcr7,hcr8,hcr9,hcr10⟩:=c11_ BR2;have hcrf0:=blk_frozen BR2.out 0;have hcrf1:=blk_frozen BR2.out 1;have hcrf2:=blk_frozen BR2.out 2;have hcrf3:=blk_frozen BR2.out 3;have hcrf4:=blk_frozen BR2.out 4;have hcrf5:=blk_frozen BR2.out 5;have hcrf6:=blk_frozen BR2.out 6;have hcrf7:=blk_frozen BR2.out 7;have hcrf8:=blk_frozen BR2.out 8;have hcrf9:=blk_frozen BR2.out 9;have hcrf10:=blk_frozen BR2.out 10
    go_wp2_with (first|((with_reducible refine gate_callee (f:=83) rfl ?_);(try (refine gate_guard (by rfl) ?_;dsimp only));refine goesL_ (some 24) rfl rfl Try.func83 (by kernel_rfl) rfl #[.agg #[.slice Ax M.r.length cx,.int .i64 M.N,.string M.s,.int .i64 M.room,.slice Ay M.v.length cy,.int .i64 M.ret,.bool M.over,.int .i64 M.st,.int .i64 M.lo,.int .i64 M.hi,.slice Az M.memo.length cz]] rfl ml ?_;(with_reducible refine (impl_copyMachine.calls Ax cx M.r M.N M.s M.room Ay cy M.v M.ret M.over M.st M.lo M.hi Az cz M.memo M.r M.N M.s M.room M.v M.ret M.over M.st M.lo M.hi M.memo _ (Kd.R_reads' R32.out.row).2.2 (Kd.R_reads' R32.out.row).2.1 (Kd.R_reads' R32.out.vals).2.2 (Kd.R_reads' R32.out.vals).2.1 (Kd.Q_reads' R32.out.memo).2.2 (Kd.Q_reads' R32.out.memo).2.1 HCM.out).mono ?_);rintro e w10 ⟨va,vb,vc,rfl,hra,hrb,hrc,hb⟩;refine ⟨_,rfl,?_⟩;obtain ⟨A7,c7,ea⟩:=Kd.R_slice hra;subst ea;obtain ⟨B7,d7,eb⟩:=Kd.R_slice hrb;subst eb;obtain ⟨D7,e7,ec⟩:=Kd.R_slice hrc;subst ec;have HR7a:=Aside0.mk (Kd.R_lower hra HX2.out.size);have HR7b:=Aside0.mk (Kd.R_lower hrb HX2.out.size);have HR7c:=Aside0.mk (Kd.R_lower hrc HX2.out.size);have HX7:=Aside0.mk (below_step HX2.out hb);have BR7:=Aside0.mk (blk_below BR2.out hb);clear hra hrb hrc hb;clear hcm0 hcm1 hcm2 hcm3 hcm4 hcm5 hcm6 hcm7 hcm8 hcm9 hcm10;clear hcr0 hcr1 hcr2 hcr3 hcr4 hcr5 hcr6 hcr7 hcr8 hcr9 hcr10 hcrf0 hcrf1 hcrf2 hcrf3 hcrf4 hcrf5 hcrf6 hcrf7 hcrf8 hcrf9 hcrf10;obtain ⟨hcr0,hcr1,hcr2,hcr3,hcr4,hcr5,hcr6,hcr7,hcr8,hcr9,hcr10⟩:=c11_ BR7;have hcrf0:=blk_frozen BR7.out 0;have hcrf1:=blk_frozen BR7.out 1;have hcrf2:=blk_frozen BR7.out 2;have hcrf3:=blk_frozen BR7.out 3;have hcrf4:=blk_frozen BR7.out 4;have hcrf5:=blk_frozen BR7.out 5;have hcrf6:=blk_frozen BR7.out 6;have hcrf7:=blk_frozen BR7.out 7;have hcrf8:=blk_frozen BR7.out 8;have hcrf9:=blk_frozen BR7.out 9;have hcrf10:=blk_frozen BR7.out 10))
    refine bodyPost_ret (results_cell_row rfl _ _ gr 36 #[.slice A7 M.r.length c7,.int .i64 M.N,.string M.s,.int .i64 M.room,.slice B7 M.v.length d7,.int .i64 M.ret,.bool M.over,.int .i64 M.st,.int .i64 M.lo,.int .i64 M.hi,.slice D7 M.memo.length e7] (0,0) _ rfl (bp11 BR7.out) Try.underlying36 rfl (by kernel_rfl)) rfl ?_
    exact ⟨.slice A7 M.r.length c7,.slice B7 M.v.length d7,.slice D7 M.memo.length e7,rfl,R11 HR7a.out BR7.out (by decide),R11 HR7b.out BR7.out (by decide),R11 HR7c.out BR7.out (by decide),below11 HX7.out GR.out⟩
end Go.Proofs.Ytlpfmhikahlcoaa.G
namespace Go.Proofs.Ytlpfmhikahlcoaa.G
open Go.Proofs.Ytlpfmhikahlcoaa.Sh Go.RowKit Go.Proofs.YtlpfmhikahlcoaaW.PrintWords Go.Proofs.YtlpfmhikahlcoaaW.PrintLast Go.Proofs.YtlpfmhikahlcoaaW.PrintMore
attribute [local go_sem] max2_int min2_int max_two min_two max_three min_three max_four min_four
set_option linter.unusedVariables false
set_option linter.unusedSimpArgs false
def impl_MachineStep.f (k:Nat) (A4:List Bool) (A6:Int) (A7:ByteArray) (A8:Int) (A5:List Int) (A9:Int) (Aa:Bool) (Ab:Int) (Ac:Int) (Ad:Int) (A0:List (S86)):Option (List Bool × Int × ByteArray × Int × List Int × Int × Bool × Int × Int × Int × (List (S86))):=(impl_MachineRun.f k A4 A6 A7 A8 A5 A9 Aa Ab Ac Ad A0 1).bind fun bt103=>(some (bt103.1,bt103.2.1,bt103.2.2.1,bt103.2.2.2.1,bt103.2.2.2.2.1,bt103.2.2.2.2.2.1,bt103.2.2.2.2.2.2.1,bt103.2.2.2.2.2.2.2.1,bt103.2.2.2.2.2.2.2.2.1,bt103.2.2.2.2.2.2.2.2.2.1,bt103.2.2.2.2.2.2.2.2.2.2))
set_option maxHeartbeats 80000000 in
set_option maxRecDepth 100000 in
theorem impl_MachineStep.calls (k:Nat) (Aj:Option Addr) (Ak:Nat) (A4:List Bool) (A6:Int) (A7:ByteArray) (A8:Int) (Al:Option Addr) (Am:Nat) (A5:List Int) (A9:Int) (Aa:Bool) (Ab:Int) (Ac:Int) (Ad:Int) (Ae:Option Addr) (Af:Nat) (A0:List (S86)) (r1:List Bool) (r2:Int) (r3:ByteArray) (r4:Int) (r5:List Int) (r6:Int) (r7:Bool) (r8:Int) (r9:Int) (r10:Int) (r11:List (S86)) (w:World) (hr0_0:Kd.C Kd.bool w Aj A4.length A4) (hc0_0:A4.length≤Ak) (hr0_4:Kd.C (Kd.int .i64) w Al A5.length A5) (hc0_4:A5.length≤Am) (hr0_10:Kd.C k86 w Ae A0.length A0) (hc0_10:A0.length≤Af) (h:impl_MachineStep.f k A4 A6 A7 A8 A5 A9 Aa Ab Ac Ad A0=some (r1,r2,r3,r4,r5,r6,r7,r8,r9,r10,r11)) :
  Calls Try.prog 39 #[.agg #[.slice Aj A4.length Ak,.int .i64 A6,.string A7,.int .i64 A8,.slice Al A5.length Am,.int .i64 A9,.bool Aa,.int .i64 Ab,.int .i64 Ac,.int .i64 Ad,.slice Ae A0.length Af]] w fun e w'=>∃ v0_ v4_ v10_:Value,e = .returned (.agg #[v0_,.int .i64 r2,.string r3,.int .i64 r4,v4_,.int .i64 r6,.bool r7,.int .i64 r8,.int .i64 r9,.int .i64 r10,v10_])∧Kd.R Kd.bool 4 w' w.heap.size (fun _=>True) v0_ r1∧Kd.R (Kd.int .i64) 3 w' w.heap.size (fun _=>True) v4_ r5∧Kd.R k86 86 w' w.heap.size (fun _=>True) v10_ r11∧Below w.heap.size w w':=by
 have hu36:=Try.underlying36;have B3:=Aside0.mk hr0_0;have B4:=Aside0.mk hc0_0;clear hr0_0 hc0_0;have B5:=Aside0.mk hr0_4;have B6:=Aside0.mk hc0_4;clear hr0_4 hc0_4;have Aq:=Aside0.mk hr0_10;have Ar:=Aside0.mk hc0_10;clear hr0_10 hc0_10;have HB:=Aside0.mk (Below.refl w.heap.size w)
 have H:((impl_MachineRun.f k A4 A6 A7 A8 A5 A9 Aa Ab Ac Ad A0 1).bind fun bt103=>(some (bt103.1,bt103.2.1,bt103.2.2.1,bt103.2.2.2.1,bt103.2.2.2.2.1,bt103.2.2.2.2.2.1,bt103.2.2.2.2.2.2.1,bt103.2.2.2.2.2.2.2.1,bt103.2.2.2.2.2.2.2.2.1,bt103.2.2.2.2.2.2.2.2.2.1,bt103.2.2.2.2.2.2.2.2.2.2)))=some (r1,r2,r3,r4,r5,r6,r7,r8,r9,r10,r11):=h
 clear h
 replace H:=Option.bind_eq_some_iff.mp H
 obtain ⟨⟨As,At,Au,Av,Aw,Ax,Ay,Az,B0,B1,B2⟩,A20,H⟩:=H
 replace H:(some (As,At,Au,Av,Aw,Ax,Ay,Az,B0,B1,B2))=some (r1,r2,r3,r4,r5,r6,r7,r8,r9,r10,r11):=H
 have A2:=Aside0.mk A20;clear A20
 simp only [Option.some.injEq,Prod.mk.injEq] at H
 obtain ⟨rfl,rfl,rfl,rfl,rfl,rfl,rfl,rfl,rfl,rfl,rfl⟩:=H
 go_enter Try.func39,Try.ntmps39
 go_wp2_with (first|((with_reducible refine gate_dst (N:=1) rfl ?_);refine bx (N:=1) (cs:=#[.slice Aj A4.length Ak,.int .i64 A6,.string A7,.int .i64 A8,.slice Al A5.length Am,.int .i64 A9,.bool Aa,.int .i64 Ab,.int .i64 Ac,.int .i64 Ad,.slice Ae A0.length Af]) (t:=36) ?_;intro gb101 hg w3 hbox hb;have A1:=Aside0.mk (hbox);have GW101:=bz0 hg HB;have Ag:=bz0 hg HB;replace HB:=bs0 HB hb;clear hb hbox hg)|((with_reducible refine gate_dst (N:=2) rfl ?_);refine bx (N:=2) (cs:=#[.slice none 0 0,.int .i64 0,.string (⟨#[]⟩:ByteArray),.int .i64 0,.slice none 0 0,.int .i64 0,.bool false,.int .i64 0,.int .i64 0,.int .i64 0,.slice none 0 0]) (t:=36) ?_;intro B7 hg w4 hbox hb;have A3:=Aside0.mk (hbox);have GW102:=bz1 hg HB Ag;have B8:=bz1 hg HB Ag;replace HB:=bs1 HB hb Ag;have Ah:=nl hg A1;have Ai:=ng hg A1;replace A1:=bb A1 hb;clear hb hbox hg;have hnb5:=Ah.out;have hnc5:=Ai.out;have hcz6__:=c11_ A1;have hfz6__:=f_ A1)|((with_reducible refine gate_callee (f:=41) rfl ?_);refine goesL_ (some 4) rfl rfl Try.func41 (by kernel_rfl) rfl #[.agg #[.slice Aj A4.length Ak,.int .i64 A6,.string A7,.int .i64 A8,.slice Al A5.length Am,.int .i64 A9,.bool Aa,.int .i64 Ab,.int .i64 Ac,.int .i64 Ad,.slice Ae A0.length Af],.int .i64 1] rfl ml ?_;(with_reducible refine (impl_MachineRun.calls k _ _ A4 A6 A7 A8 _ _ A5 A9 Aa Ab Ac Ad _ _ A0 1 As At Au Av Aw Ax Ay Az B0 B1 B2 _ ?side1 ?side2 ?side3 ?side4 ?side5 ?side6 A2.out).mono ?_);(case side1=>exact cw (Kd.C_below B3.out HB.out));(case side2=>exact B4.out);(case side3=>exact cw (Kd.C_below B5.out HB.out));(case side4=>exact B6.out);(case side5=>exact cw (Kd.C_below Aq.out HB.out));(case side6=>exact Ar.out);rintro e w7 ⟨v104,v110,v118,rfl,ho0,ho1,ho2,hb⟩;refine ⟨_,rfl,?_⟩;have An:=Aside0.mk (Kd.R_lower ho0 (below_size (tb HB)));have Ao:=Aside0.mk (Kd.R_lower ho1 (below_size (tb HB)));have Ap:=Aside0.mk (Kd.R_lower ho2 (below_size (tb HB)));replace A1:=bb A1 hb;replace A3:=bb A3 hb;replace HB:=bs2 HB hb Ag B8;(try clear hb);(try clear hb2);(try clear hk);(try clear hi);(try clear ho0);(try clear ho1);(try clear ho2);obtain ⟨Ao8,co8,eo8⟩:=Kd.R_slice An.out;subst eo8;have hcz9__:=c11_ A3;have hfz9__:=f_ A3;obtain ⟨Ao10,co10,eo10⟩:=Kd.R_slice Ao.out;subst eo10;obtain ⟨Ao11,co11,eo11⟩:=Kd.R_slice Ap.out;subst eo11))
 refine bodyPost_ret (results_cell_row rfl _ _ B7 36 #[.slice Ao8 As.length co8,.int .i64 At,.string Au,.int .i64 Av,.slice Ao10 Aw.length co10,.int .i64 Ax,.bool Ay,.int .i64 Az,.int .i64 B0,.int .i64 B1,.slice Ao11 B2.length co11] (0,0) _ rfl (by (with_reducible repeat (first|refine blk_drewN ?_ _|refine blk_drew ?_|refine blk_alloc ?_ _));exact bp11 A3.out) Try.underlying36 rfl (by kernel_rfl)) rfl ?_
 exact ⟨_,_,_,er,by exact rfs (Kd.R_types An.out A3.out (by decide)),by exact rfs (Kd.R_types Ao.out A3.out (by decide)),by exact rfs (Kd.R_types Ap.out A3.out (by decide)),tb HB⟩
end Go.Proofs.Ytlpfmhikahlcoaa.G
namespace Go.Proofs.Ytlpfmhikahlcoaa.G
open Go.Proofs.Ytlpfmhikahlcoaa.Sh
open Go.RowKit Go.Proofs.YtlpfmhikahlcoaaW.PrintWords Go.Proofs.YtlpfmhikahlcoaaW.PrintLast Go.Proofs.YtlpfmhikahlcoaaW.PrintMore
attribute [local go_sem] max2_int min2_int max_two min_two max_three min_three max_four min_four
set_option linter.unusedVariables false
set_option linter.unusedSimpArgs false
def laws_eqBoolS.l0:Nat→List Bool→List Bool→Int→Option (Bool)
  | 0,_,_,_=>none
  | k + 1,x0,x1,x5=>if x5 < (x0.length:Int) then (if 0≤x5 then (if x5 < (x1.length:Int) then (if ((rdOf false x0 x5) != (rdOf false x1 x5))=true then (some false) else (laws_eqBoolS.l0 k x0 x1 (wrap64 (x5 + 1)))) else (none)) else (none)) else (some true)
def laws_eqBoolS.f (k:Nat) (l0:List Bool) (l1:List Bool):Option (Bool):=if (l0.length:Int)=(l1.length:Int) then (laws_eqBoolS.l0 k l0 l1 0) else (some false)
set_option maxHeartbeats 8000000 in
set_option maxRecDepth 100000 in
theorem laws_eqBoolS.calls (k:Nat) (A0:Option Addr) (c0:Nat) (l0:List Bool) (A1:Option Addr) (c1:Nat) (l1:List Bool) (r:Bool) (w:World) (hr0:Kd.C Kd.bool w A0 l0.length l0) (hc0:l0.length≤c0) (hr1:Kd.C Kd.bool w A1 l1.length l1) (hc1:l1.length≤c1) (h:laws_eqBoolS.f k l0 l1=some r) :
    Calls Try.prog 20 #[.slice A0 l0.length c0,.slice A1 l1.length c1] w fun e w'=>e = .returned (.bool r)∧Drawn0 w w':=by
  have HR0:=Aside0.mk hr0
  have HC0:=Aside0.mk hc0
  clear hr0 hc0
  have HR1:=Aside0.mk hr1
  have HC1:=Aside0.mk hc1
  clear hr1 hc1
  have H:(if (l0.length:Int)=(l1.length:Int) then (laws_eqBoolS.l0 k l0 l1 0) else (some false))=some r:=h
  clear h
  by_cases c3:(l0.length:Int)=(l1.length:Int)
  · rw [if_pos c3] at H
    have c3b0:((l0.length:Int) == (l1.length:Int))=true:=beq_iff_eq.mpr c3
    have c3b1:((l0.length:Int) != (l1.length:Int))=false:=bne_eq_false_iff_eq.mpr c3
    have c3b2:(l0.length == l1.length)=true:=by first|simpa using c3|(simp at c3 ⊢;omega)
    clear c3
    have H':=Aside0.mk H
    clear H
    go_enter Try.func20,Try.ntmps20
    go_wp2
    repeat (go_quiet (fail);try go_wp2)
    go_loopg [5] k (fun kq v5 w'=>∃ (A2:Int),v5 = .int .i64 A2∧Aside0 (laws_eqBoolS.l0 kq l0 l1 A2=some r)∧Aside0 (kq≤k)∧Drawn0 w w')
    case atStart=>exact ⟨(0),(by first|rfl|(simp;done)|(simp [*];done)),H',⟨Nat.le_refl _⟩,by repeat (first|exact Drawn0.refl _|apply Drawn0.step)⟩
    case round =>
      clear H'
      try clear c1
      try clear c2
      try clear p2
      try clear c3
      try clear c3b0
      try clear c3b1
      try clear c3b2
      obtain ⟨A2,rfl,HA,HK1,⟨m1,rfl⟩⟩:=hrel
      cases gk with
      | zero=>exact absurd HA.out (by simp [laws_eqBoolS.l0])
      | succ k1 =>
        have H:=HA.out
        clear HA
        simp only [laws_eqBoolS.l0] at H
        by_cases c4:A2 < (l0.length:Int)
        · rw [if_pos c4] at H
          have c4b0:decide (A2 < (l0.length:Int))=true:=decide_eq_true c4
          clear c4
          by_cases c5:0≤A2
          · rw [if_pos c5] at H
            have c5b0:decide (0≤A2)=true:=decide_eq_true c5
            clear c5
            by_cases c6:A2 < (l1.length:Int)
            · rw [if_pos c6] at H
              have c6b0:decide (A2 < (l1.length:Int))=true:=decide_eq_true c6
              clear c6
              by_cases c7:((rdOf false l0 A2) != (rdOf false l1 A2))=true
              · rw [if_pos c7] at H
                have c7b0:((rdOf false l0 A2) != (rdOf false l1 A2))=true:=c7
                (try (have c7b1:decide ((rdOf false l0 A2)=(rdOf false l1 A2))=false:=by simpa using c7))
                (try (have c7b2:((rdOf false l0 A2) == (rdOf false l1 A2))=false:=by simpa using c7))
                (try (have c7b3:¬ ((rdOf false l0 A2)=(rdOf false l1 A2)):=by simpa using c7))
                clear c7
                obtain rfl:=Option.some.inj H
                have p101:0≤(A2:Int):=od
                have q101:A2 < (l0.length:Int):=od
                obtain ⟨ad101,e101,hx101_0⟩:=Kd.at_bool HR0.out A2 p101 q101
                cases e101
                replace p101:=eq_true p101
                replace q101:=eq_true q101
                have p102:0≤(A2:Int):=od
                have q102:A2 < (l1.length:Int):=od
                obtain ⟨ad102,e102,hx102_0⟩:=Kd.at_bool HR1.out A2 p102 q102
                cases e102
                replace p102:=eq_true p102
                replace q102:=eq_true q102
                go_wp2
                repeat (go_quiet (fail);try go_wp2)
                go_ret
                exact ⟨by first|rfl|(simp;done)|(simp [*];done),by repeat (first|exact Drawn0.refl _|apply Drawn0.step)⟩
              · rw [if_neg c7] at H
                have c7b0:((rdOf false l0 A2) != (rdOf false l1 A2))=false:=by simpa using c7
                (try (have c7b1:decide ((rdOf false l0 A2)=(rdOf false l1 A2))=true:=by simpa using c7))
                (try (have c7b2:((rdOf false l0 A2) == (rdOf false l1 A2))=true:=by simpa using c7))
                clear c7
                have H':=Aside0.mk H
                clear H
                have p101:0≤(A2:Int):=od
                have q101:A2 < (l0.length:Int):=od
                obtain ⟨ad101,e101,hx101_0⟩:=Kd.at_bool HR0.out A2 p101 q101
                cases e101
                replace p101:=eq_true p101
                replace q101:=eq_true q101
                have p102:0≤(A2:Int):=od
                have q102:A2 < (l1.length:Int):=od
                obtain ⟨ad102,e102,hx102_0⟩:=Kd.at_bool HR1.out A2 p102 q102
                cases e102
                replace p102:=eq_true p102
                replace q102:=eq_true q102
                go_wp2
                repeat (go_quiet (fail);try go_wp2)
                go_roundg k1
                case measure=>have:=HK1.out;omega
                case rel=>exact ⟨(wrap64 (A2 + 1)),(by first|rfl|(simp;done)|(simp [*];done)),H',⟨by have:=HK1.out;omega⟩,by repeat (first|exact Drawn0.refl _|apply Drawn0.step)⟩
            · rw [if_neg c6] at H
              exact absurd H (by simp)
          · rw [if_neg c5] at H
            exact absurd H (by simp)
        · rw [if_neg c4] at H
          have c4b0:decide (A2 < (l0.length:Int))=false:=decide_eq_false c4
          clear c4
          obtain rfl:=Option.some.inj H
          go_wp2
          repeat (go_quiet (fail);try go_wp2)
          go_ret
          exact ⟨by first|rfl|(simp;done)|(simp [*];done),by repeat (first|exact Drawn0.refl _|apply Drawn0.step)⟩
  · rw [if_neg c3] at H
    have c3b0:((l0.length:Int) == (l1.length:Int))=false:=beq_eq_false_iff_ne.mpr c3
    have c3b1:((l0.length:Int) != (l1.length:Int))=true:=bne_iff_ne.mpr c3
    have c3b2:(l0.length == l1.length)=false:=by first|simpa using c3|(simp at c3 ⊢;omega)
    obtain rfl:=Option.some.inj H
    go_enter Try.func20,Try.ntmps20
    go_wp2
    repeat (go_quiet (fail);try go_wp2)
    go_ret
    exact ⟨by first|rfl|(simp;done)|(simp [*];done),by repeat (first|exact Drawn0.refl _|apply Drawn0.step)⟩
def laws_eqIntS.l0:Nat→List Int→List Int→Int→Option (Bool)
  | 0,_,_,_=>none
  | k + 1,x0,x1,x5=>if x5 < (x0.length:Int) then (if 0≤x5 then (if x5 < (x1.length:Int) then (if (rd x0 x5)=(rd x1 x5) then (laws_eqIntS.l0 k x0 x1 (wrap64 (x5 + 1))) else (some false)) else (none)) else (none)) else (some true)
def laws_eqIntS.f (k:Nat) (l0:List Int) (l1:List Int):Option (Bool):=if (l0.length:Int)=(l1.length:Int) then (laws_eqIntS.l0 k l0 l1 0) else (some false)
set_option maxHeartbeats 8000000 in
set_option maxRecDepth 100000 in
theorem laws_eqIntS.calls (k:Nat) (A0:Option Addr) (c0:Nat) (l0:List Int) (A1:Option Addr) (c1:Nat) (l1:List Int) (r:Bool) (w:World) (hr0:Kd.C (Kd.int .i64) w A0 l0.length l0) (hc0:l0.length≤c0) (hr1:Kd.C (Kd.int .i64) w A1 l1.length l1) (hc1:l1.length≤c1) (h:laws_eqIntS.f k l0 l1=some r) :
    Calls Try.prog 65 #[.slice A0 l0.length c0,.slice A1 l1.length c1] w fun e w'=>e = .returned (.bool r)∧Drawn0 w w':=by
  have HR0:=Aside0.mk hr0
  have HC0:=Aside0.mk hc0
  clear hr0 hc0
  have HR1:=Aside0.mk hr1
  have HC1:=Aside0.mk hc1
  clear hr1 hc1
  have H:(if (l0.length:Int)=(l1.length:Int) then (laws_eqIntS.l0 k l0 l1 0) else (some false))=some r:=h
  clear h
  by_cases c3:(l0.length:Int)=(l1.length:Int)
  · rw [if_pos c3] at H
    have c3b0:((l0.length:Int) == (l1.length:Int))=true:=beq_iff_eq.mpr c3
    have c3b1:((l0.length:Int) != (l1.length:Int))=false:=bne_eq_false_iff_eq.mpr c3
    have c3b2:(l0.length == l1.length)=true:=by first|simpa using c3|(simp at c3 ⊢;omega)
    clear c3
    have H':=Aside0.mk H
    clear H
    go_enter Try.func65,Try.ntmps65
    go_wp2
    repeat (go_quiet (fail);try go_wp2)
    go_loopg [5] k (fun kq v5 w'=>∃ (A2:Int),v5 = .int .i64 A2∧Aside0 (laws_eqIntS.l0 kq l0 l1 A2=some r)∧Aside0 (kq≤k)∧Drawn0 w w')
    case atStart=>exact ⟨(0),(by first|rfl|(simp;done)|(simp [*];done)),H',⟨Nat.le_refl _⟩,by repeat (first|exact Drawn0.refl _|apply Drawn0.step)⟩
    case round =>
      clear H'
      try clear c1
      try clear p2
      try clear c3
      try clear c3b0
      try clear c3b1
      try clear c3b2
      obtain ⟨A2,rfl,HA,HK1,⟨m1,rfl⟩⟩:=hrel
      cases gk with
      | zero=>exact absurd HA.out (by simp [laws_eqIntS.l0])
      | succ k1 =>
        have H:=HA.out
        clear HA
        simp only [laws_eqIntS.l0] at H
        by_cases c4:A2 < (l0.length:Int)
        · rw [if_pos c4] at H
          have c4b0:decide (A2 < (l0.length:Int))=true:=decide_eq_true c4
          clear c4
          by_cases c5:0≤A2
          · rw [if_pos c5] at H
            have c5b0:decide (0≤A2)=true:=decide_eq_true c5
            clear c5
            by_cases c6:A2 < (l1.length:Int)
            · rw [if_pos c6] at H
              have c6b0:decide (A2 < (l1.length:Int))=true:=decide_eq_true c6
              clear c6
              by_cases c7:(rd l0 A2)=(rd l1 A2)
              · rw [if_pos c7] at H
                have c7b0:((rd l0 A2) == (rd l1 A2))=true:=beq_iff_eq.mpr c7
                have c7b1:((rd l0 A2) != (rd l1 A2))=false:=bne_eq_false_iff_eq.mpr c7
                clear c7
                have H':=Aside0.mk H
                clear H
                have p101:0≤(A2:Int):=od
                have q101:A2 < (l0.length:Int):=od
                obtain ⟨ad101,e101,hx101_0⟩:=Kd.at_int HR0.out A2 p101 q101
                cases e101
                replace p101:=eq_true p101
                replace q101:=eq_true q101
                have p102:0≤(A2:Int):=od
                have q102:A2 < (l1.length:Int):=od
                obtain ⟨ad102,e102,hx102_0⟩:=Kd.at_int HR1.out A2 p102 q102
                cases e102
                replace p102:=eq_true p102
                replace q102:=eq_true q102
                go_wp2
                repeat (go_quiet (fail);try go_wp2)
                go_roundg k1
                case measure=>have:=HK1.out;omega
                case rel=>exact ⟨(wrap64 (A2 + 1)),(by first|rfl|(simp;done)|(simp [*];done)),H',⟨by have:=HK1.out;omega⟩,by repeat (first|exact Drawn0.refl _|apply Drawn0.step)⟩
              · rw [if_neg c7] at H
                have c7b0:((rd l0 A2) == (rd l1 A2))=false:=beq_eq_false_iff_ne.mpr c7
                have c7b1:((rd l0 A2) != (rd l1 A2))=true:=bne_iff_ne.mpr c7
                obtain rfl:=Option.some.inj H
                have p101:0≤(A2:Int):=od
                have q101:A2 < (l0.length:Int):=od
                obtain ⟨ad101,e101,hx101_0⟩:=Kd.at_int HR0.out A2 p101 q101
                cases e101
                replace p101:=eq_true p101
                replace q101:=eq_true q101
                have p102:0≤(A2:Int):=od
                have q102:A2 < (l1.length:Int):=od
                obtain ⟨ad102,e102,hx102_0⟩:=Kd.at_int HR1.out A2 p102 q102
                cases e102
                replace p102:=eq_true p102
                replace q102:=eq_true q102
                go_wp2
                repeat (go_quiet (fail);try go_wp2)
                go_ret
                exact ⟨by first|rfl|(simp;done)|(simp [*];done),by repeat (first|exact Drawn0.refl _|apply Drawn0.step)⟩
            · rw [if_neg c6] at H
              exact absurd H (by simp)
          · rw [if_neg c5] at H
            exact absurd H (by simp)
        · rw [if_neg c4] at H
          have c4b0:decide (A2 < (l0.length:Int))=false:=decide_eq_false c4
          clear c4
          obtain rfl:=Option.some.inj H
          go_wp2
          repeat (go_quiet (fail);try go_wp2)
          go_ret
          exact ⟨by first|rfl|(simp;done)|(simp [*];done),by repeat (first|exact Drawn0.refl _|apply Drawn0.step)⟩
  · rw [if_neg c3] at H
    have c3b0:((l0.length:Int) == (l1.length:Int))=false:=beq_eq_false_iff_ne.mpr c3
    have c3b1:((l0.length:Int) != (l1.length:Int))=true:=bne_iff_ne.mpr c3
    have c3b2:(l0.length == l1.length)=false:=by first|simpa using c3|(simp at c3 ⊢;omega)
    obtain rfl:=Option.some.inj H
    go_enter Try.func65,Try.ntmps65
    go_wp2
    repeat (go_quiet (fail);try go_wp2)
    go_ret
    exact ⟨by first|rfl|(simp;done)|(simp [*];done),by repeat (first|exact Drawn0.refl _|apply Drawn0.step)⟩
def laws_eqSeen.f (A2:ByteArray) (A3:Int) (a1_0:ByteArray) (a1_1:Int):Option (Bool):=if A2.toList=a1_0.toList then (if A3=a1_1 then (some true) else (some false)) else (some false)
set_option maxHeartbeats 8000000 in
set_option maxRecDepth 100000 in
theorem laws_eqSeen.calls (A2:ByteArray) (A3:Int) (a1_0:ByteArray) (a1_1:Int) (r:Bool) (w:World) (h:laws_eqSeen.f A2 A3 a1_0 a1_1=some r) :
    Calls Try.prog 109 #[.agg #[.string A2,.int .i64 A3],.agg #[.string a1_0,.int .i64 a1_1]] w fun e w'=>e = .returned (.bool r)∧Below w.heap.size w w':=by
  have hu86:=Try.underlying86
  have HB:=Aside0.mk (Below.refl w.heap.size w)
  have H:(if A2.toList=a1_0.toList then (if A3=a1_1 then (some true) else (some false)) else (some false))=some r:=h
  clear h
  by_cases c3:A2.toList=a1_0.toList
  · rw [if_pos c3] at H
    have c3b0:(A2.toList == a1_0.toList)=true:=beq_iff_eq.mpr c3
    have c3b1:(A2.toList != a1_0.toList)=false:=bne_eq_false_iff_eq.mpr c3
    clear c3
    by_cases c4:A3=a1_1
    · rw [if_pos c4] at H
      have c4b0:(A3 == a1_1)=true:=beq_iff_eq.mpr c4
      have c4b1:(A3 != a1_1)=false:=bne_eq_false_iff_eq.mpr c4
      clear c4
      obtain rfl:=Option.some.inj H
      go_enter Try.func109,Try.ntmps109
      go_wp2_with (first|((with_reducible refine gate_dst (N:=2) rfl ?_);refine bx (N:=2) (cs:=#[.string A2,.int .i64 A3]) (t:=86) ?_;intro A0 hg w5 hbox hb;have A1:=Aside0.mk (hbox);have A8:=Aside0.mk ((by rw [hg];exact (below_size (tb HB)):w.heap.size≤A0));have A9:=Aside0.mk ((by rw [hg];exact (below_size (tb HB)):w.heap.size≤A0));replace HB:=Aside0.mk (below_step (tb HB) hb);clear hb hbox hg)|((with_reducible refine gate_dst (N:=3) rfl ?_);refine bx (N:=3) (cs:=#[.string a1_0,.int .i64 a1_1]) (t:=86) ?_;intro A4 hg w6 hbox hb;have A7:=Aside0.mk (hbox);have Aa:=Aside0.mk ((by rw [hg];exact (below_size (tb HB)):w.heap.size≤A4));have Ab:=Aside0.mk ((by rw [hg];exact (below_size (tb HB)):w.heap.size≤A4));replace HB:=Aside0.mk (below_step (tb HB) hb);have A5:=Aside0.mk ((by rw [hg];exact Nat.ne_of_lt (blk_lt (g:=A0) (o := .cells #[.string A2,.int .i64 A3] 86 (0,0)) (dr A1)):A0≠A4));have A6:=Aside0.mk ((by rw [hg];exact Nat.ne_of_gt (blk_lt (g:=A0) (o := .cells #[.string A2,.int .i64 A3] 86 (0,0)) (dr A1)):A4≠A0));replace A1:=Aside0.mk (blk_below (g:=A0) (o := .cells #[.string A2,.int .i64 A3] 86 (0,0)) (dr A1) hb);clear hb hbox hg;have hnb7:=A5.out;have hnc7:=A6.out;have hcz8__:=c2_ A1;have hfz8__:=f_ A1;have hcz9__:=c2_ A7;have hfz9__:=f_ A7))
      go_ret
      exact ⟨er,tb HB⟩
    · rw [if_neg c4] at H
      have c4b0:(A3 == a1_1)=false:=beq_eq_false_iff_ne.mpr c4
      have c4b1:(A3 != a1_1)=true:=bne_iff_ne.mpr c4
      obtain rfl:=Option.some.inj H
      go_enter Try.func109,Try.ntmps109
      go_wp2_with (first|((with_reducible refine gate_dst (N:=2) rfl ?_);refine bx (N:=2) (cs:=#[.string A2,.int .i64 A3]) (t:=86) ?_;intro A0 hg w10 hbox hb;have A1:=Aside0.mk (hbox);have A8:=Aside0.mk ((by rw [hg];exact (below_size (tb HB)):w.heap.size≤A0));have A9:=Aside0.mk ((by rw [hg];exact (below_size (tb HB)):w.heap.size≤A0));replace HB:=Aside0.mk (below_step (tb HB) hb);clear hb hbox hg)|((with_reducible refine gate_dst (N:=3) rfl ?_);refine bx (N:=3) (cs:=#[.string a1_0,.int .i64 a1_1]) (t:=86) ?_;intro A4 hg w11 hbox hb;have A7:=Aside0.mk (hbox);have Aa:=Aside0.mk ((by rw [hg];exact (below_size (tb HB)):w.heap.size≤A4));have Ab:=Aside0.mk ((by rw [hg];exact (below_size (tb HB)):w.heap.size≤A4));replace HB:=Aside0.mk (below_step (tb HB) hb);have A5:=Aside0.mk ((by rw [hg];exact Nat.ne_of_lt (blk_lt (g:=A0) (o := .cells #[.string A2,.int .i64 A3] 86 (0,0)) (dr A1)):A0≠A4));have A6:=Aside0.mk ((by rw [hg];exact Nat.ne_of_gt (blk_lt (g:=A0) (o := .cells #[.string A2,.int .i64 A3] 86 (0,0)) (dr A1)):A4≠A0));replace A1:=Aside0.mk (blk_below (g:=A0) (o := .cells #[.string A2,.int .i64 A3] 86 (0,0)) (dr A1) hb);clear hb hbox hg;have hnb12:=A5.out;have hnc12:=A6.out;have hcz13__:=c2_ A1;have hfz13__:=f_ A1;have hcz14__:=c2_ A7;have hfz14__:=f_ A7))
      go_ret
      exact ⟨er,tb HB⟩
  · rw [if_neg c3] at H
    have c3b0:(A2.toList == a1_0.toList)=false:=beq_eq_false_iff_ne.mpr c3
    have c3b1:(A2.toList != a1_0.toList)=true:=bne_iff_ne.mpr c3
    obtain rfl:=Option.some.inj H
    go_enter Try.func109,Try.ntmps109
    go_wp2_with (first|((with_reducible refine gate_dst (N:=2) rfl ?_);refine bx (N:=2) (cs:=#[.string A2,.int .i64 A3]) (t:=86) ?_;intro A0 hg w15 hbox hb;have A1:=Aside0.mk (hbox);have A8:=Aside0.mk ((by rw [hg];exact (below_size (tb HB)):w.heap.size≤A0));have A9:=Aside0.mk ((by rw [hg];exact (below_size (tb HB)):w.heap.size≤A0));replace HB:=Aside0.mk (below_step (tb HB) hb);clear hb hbox hg)|((with_reducible refine gate_dst (N:=3) rfl ?_);refine bx (N:=3) (cs:=#[.string a1_0,.int .i64 a1_1]) (t:=86) ?_;intro A4 hg w16 hbox hb;have A7:=Aside0.mk (hbox);have Aa:=Aside0.mk ((by rw [hg];exact (below_size (tb HB)):w.heap.size≤A4));have Ab:=Aside0.mk ((by rw [hg];exact (below_size (tb HB)):w.heap.size≤A4));replace HB:=Aside0.mk (below_step (tb HB) hb);have A5:=Aside0.mk ((by rw [hg];exact Nat.ne_of_lt (blk_lt (g:=A0) (o := .cells #[.string A2,.int .i64 A3] 86 (0,0)) (dr A1)):A0≠A4));have A6:=Aside0.mk ((by rw [hg];exact Nat.ne_of_gt (blk_lt (g:=A0) (o := .cells #[.string A2,.int .i64 A3] 86 (0,0)) (dr A1)):A4≠A0));replace A1:=Aside0.mk (blk_below (g:=A0) (o := .cells #[.string A2,.int .i64 A3] 86 (0,0)) (dr A1) hb);clear hb hbox hg;have hnb17:=A5.out;have hnc17:=A6.out;have hcz18__:=c2_ A1;have hfz18__:=f_ A1;have hcz19__:=c2_ A7;have hfz19__:=f_ A7))
    go_ret
    exact ⟨er,tb HB⟩
end Go.Proofs.Ytlpfmhikahlcoaa.G
namespace Go.Proofs.Ytlpfmhikahlcoaa.G
open Go.Proofs.Ytlpfmhikahlcoaa.Sh Go.RowKit Go.Proofs.YtlpfmhikahlcoaaW.PrintWords Go.Proofs.YtlpfmhikahlcoaaW.PrintLast Go.Proofs.YtlpfmhikahlcoaaW.PrintMore
attribute [local go_sem] max2_int min2_int max_two min_two max_three min_three max_four min_four
set_option linter.unusedVariables false
set_option linter.unusedSimpArgs false
def laws_eqSeenS.l0:Nat→List (S86)→List (S86)→Int→Option (Bool)
  | 0,_,_,_=>none
  | k + 1,x0,x1,x5=>if x5 < (x0.length:Int) then (if 0≤x5 then (if x5 < (x1.length:Int) then ((laws_eqSeen.f ((rd_T86 x0 x5).f0) ((rd_T86 x0 x5).f1) ((rd_T86 x1 x5).f0) ((rd_T86 x1 x5).f1)).bind fun A3=>(if A3=true then (laws_eqSeenS.l0 k x0 x1 (wrap64 (x5 + 1))) else (some false))) else (none)) else (none)) else (some true)
def laws_eqSeenS.f (k:Nat) (l0:List (S86)) (l1:List (S86)):Option (Bool):=if (l0.length:Int)=(l1.length:Int) then (laws_eqSeenS.l0 k l0 l1 0) else (some false)
def laws_eqSeenS.T6:Bool × List (List Nat × List Nat):=(true,[([],[]),([],[]),([0,1],[0,1]),([2],[2]),([],[]),([],[]),([4,5],[4,5]),([6],[6]),([3,7],[3,7]),([8],[8])])
def laws_eqSeenS.B6:List Nat:=[0,0,3,7,0,0,48,112,255,511]
theorem laws_eqSeenS.tab6:rtab .any (opsOf Try.f66 6)=laws_eqSeenS.T6:=by kernel_rfl
theorem laws_eqSeenS.bits6:waitsOk laws_eqSeenS.T6.2 laws_eqSeenS.B6=true:=by kernel_rfl
set_option maxHeartbeats 80000000 in
set_option maxRecDepth 100000 in
theorem laws_eqSeenS.calls (k:Nat) (A0:Option Addr) (c0:Nat) (l0:List (S86)) (A1:Option Addr) (c1:Nat) (l1:List (S86)) (r:Bool) (w:World) (hr0:Kd.C k86 w A0 l0.length l0) (hc0:l0.length≤c0) (hr1:Kd.C k86 w A1 l1.length l1) (hc1:l1.length≤c1) (h:laws_eqSeenS.f k l0 l1=some r) :
  Calls Try.prog 66 #[.slice A0 l0.length c0,.slice A1 l1.length c1] w fun e w'=>e = .returned (.bool r)∧Below w.heap.size w w':=by
 have hu86:=Try.underlying86;have HR0:=Aside0.mk hr0;have HC0:=Aside0.mk hc0;clear hr0 hc0;have HR1:=Aside0.mk hr1;have HC1:=Aside0.mk hc1;clear hr1 hc1;have HB:=Aside0.mk (Below.refl w.heap.size w)
 have H:(if (l0.length:Int)=(l1.length:Int) then (laws_eqSeenS.l0 k l0 l1 0) else (some false))=some r:=h
 clear h
 by_cases c3:(l0.length:Int)=(l1.length:Int)
 ·rw [if_pos c3] at H
  have c3b0:((l0.length:Int) == (l1.length:Int))=true:=beq_iff_eq.mpr c3;have c3b1:((l0.length:Int) != (l1.length:Int))=false:=bne_eq_false_iff_eq.mpr c3
  have c3b2:(l0.length == l1.length)=true:=by first|simpa using c3|(simp at c3 ⊢;omega)
  clear c3
  have H':=Aside0.mk H
  clear H
  go_enter Try.func66,Try.ntmps66
  go_wp2
  go_loopg [5] k (fun kq v5 w'=>∃ (A2:Int),v5 = .int .i64 A2∧Aside0 (laws_eqSeenS.l0 kq l0 l1 A2=some r)∧Aside0 (kq≤k)∧Aside0 (Below w.heap.size w w'))
  case atStart=>exact ⟨(0),(by first|rfl|(simp;done)|(simp [*];done)),H',⟨Nat.le_refl _⟩,⟨by exact tb HB⟩⟩
  case round =>
   clear H'
   (try clear c1);(try clear p2);(try clear c3);(try clear c3b0);(try clear c3b1);(try clear c3b2)
   obtain ⟨A2,rfl,HA,HK1,HB⟩:=hrel
   cases gk with
      | zero=>exact absurd HA.out (by simp [laws_eqSeenS.l0])
      | succ k1 =>
    have H:=HA.out;clear HA
    simp only [laws_eqSeenS.l0] at H
    by_cases c4:A2 < (l0.length:Int)
    ·rw [if_pos c4] at H
     have c4b0:decide (A2 < (l0.length:Int))=true:=decide_eq_true c4;clear c4
     by_cases c5:0≤A2
     ·rw [if_pos c5] at H
      have c5b0:decide (0≤A2)=true:=decide_eq_true c5;clear c5
      by_cases c6:A2 < (l1.length:Int)
      ·rw [if_pos c6] at H
       have c6b0:decide (A2 < (l1.length:Int))=true:=decide_eq_true c6;clear c6
       replace H:=Option.bind_eq_some_iff.mp H
       obtain ⟨A3,A70,H⟩:=H
       replace H:(if A3=true then (laws_eqSeenS.l0 k1 l0 l1 (wrap64 (A2 + 1))) else (some false))=some r:=H
       have A7:=Aside0.mk A70;clear A70
       by_cases c8:A3=true
       ·subst c8
        have H1:(laws_eqSeenS.l0 k1 l0 l1 (wrap64 (A2 + 1)))=some r:=by rw [if_pos rfl] at H;exact H
        clear H;have H:=H1;clear H1
        have H':=Aside0.mk H
        clear H
        try go_wp2
        replace HB:=Aside0.mk (below_drew1 HB.out)
        have p101:0≤(A2:Int):=od
        have q101:A2 < (l0.length:Int):=od
        obtain ⟨ad101,e101,hx101_0,hx101_1⟩:=at_T86 HR0.out A2 p101 q101
        have hw101_1:=hx101_1;have hw101_0:=hx101_0
        cases e101
        replace hx101_0:=(HB.out.cell (World.block_lt_of_cell? w _ hx101_0)).trans hx101_0
        replace hx101_1:=(HB.out.cell (World.block_lt_of_cell? w _ hx101_1)).trans hx101_1
        replace p101:=eq_true p101
        replace q101:=eq_true q101
        have p102:0≤(A2:Int):=od
        have q102:A2 < (l1.length:Int):=od
        obtain ⟨ad102,e102,hx102_0,hx102_1⟩:=at_T86 HR1.out A2 p102 q102
        have hw102_1:=hx102_1;have hw102_0:=hx102_0
        cases e102
        replace hx102_0:=(HB.out.cell (World.block_lt_of_cell? w _ hx102_0)).trans hx102_0
        replace hx102_1:=(HB.out.cell (World.block_lt_of_cell? w _ hx102_1)).trans hx102_1
        replace p102:=eq_true p102
        replace q102:=eq_true q102
        refine start_ (n:=10) (S:=fun w'=>w'.cell? (ad101.add ((A2).toNat * 2))=some (.string ((rd_T86 l0 A2).f0))∧w'.cell? ⟨(ad101.add ((A2).toNat * 2)).block,(ad101.add ((A2).toNat * 2)).off + 1,none⟩=some (.int .i64 ((rd_T86 l0 A2).f1))∧w'.cell? (ad102.add ((A2).toNat * 2))=some (.string ((rd_T86 l1 A2).f0))∧w'.cell? ⟨(ad102.add ((A2).toNat * 2)).block,(ad102.add ((A2).toNat * 2)).off + 1,none⟩=some (.int .i64 ((rd_T86 l1 A2).f1))) (ds:=[]) #[false,false,false,false,false,false,false,false,false,false] (by kernel_rfl) rfl rfl ⟨((HB.out.cell (World.block_lt_of_cell? w _ hw101_0)).trans hw101_0),((HB.out.cell (World.block_lt_of_cell? w _ hw101_1)).trans hw101_1),((HB.out.cell (World.block_lt_of_cell? w _ hw102_0)).trans hw102_0),((HB.out.cell (World.block_lt_of_cell? w _ hw102_1)).trans hw102_1)⟩ (fun hHeld=>?_);refine with_tabW laws_eqSeenS.tab6 laws_eqSeenS.bits6 (fun HT_ HW_=>?_)
        generalize wr.drew=w9 at HB hx101_0 hx101_1 hx102_0 hx102_1 hHeld ⊢
        refine pure_ (i:=0) (N:=some 17) (v:=?_) (a':=?_) #[true,false,false,false,false,false,false,false,false,false] rfl rfl (any_of HT_.out (by kernel_rfl)) (fun _ _ _ h=>h) (Or.inl ⟨by rfl,?_⟩) ?_ ?_
        rotate_left
        ·intro w'
         go_simp
         with_reducible rfl
        rotate_left
        ·simp only [Act.put,List.setIfInBounds_toArray,List.set_cons_zero,List.set_cons_succ,i64_w,i32_w]
         rfl
        refine pure_ (i:=1) (N:=some 18) (v:=?_) (a':=?_) #[true,true,false,false,false,false,false,false,false,false] rfl rfl (any_of HT_.out (by kernel_rfl)) (fun _ _ _ h=>h) (Or.inl ⟨by rfl,?_⟩) ?_ ?_
        rotate_left
        ·intro w'
         go_simp
         with_reducible rfl
        rotate_left
        ·simp only [Act.put,List.setIfInBounds_toArray,List.set_cons_zero,List.set_cons_succ,i64_w,i32_w]
         rfl
        refine pure_ (i:=2) (N:=some 19) (v:=?_) (a':=?_) #[true,true,true,false,false,false,false,false,false,false] rfl rfl (any_of HT_.out (by kernel_rfl)) (fun _ _ _ h=>h) (Or.inl ⟨by rfl,?_⟩) ?_ ?_
        rotate_left
        ·intro w'
         go_simp
         with_reducible rfl
        rotate_left
        ·simp only [Act.put,List.setIfInBounds_toArray,List.set_cons_zero,List.set_cons_succ,i64_w,i32_w]
         rfl
        refine pure_ (i:=4) (N:=some 21) (v:=?_) (a':=?_) #[true,true,true,false,true,false,false,false,false,false] rfl rfl (any_of HT_.out (by kernel_rfl)) (fun _ _ _ h=>h) (Or.inl ⟨by rfl,?_⟩) ?_ ?_
        rotate_left
        ·intro w'
         go_simp
         with_reducible rfl
        rotate_left
        ·simp only [Act.put,List.setIfInBounds_toArray,List.set_cons_zero,List.set_cons_succ,i64_w,i32_w]
         rfl
        refine pure_ (i:=5) (N:=some 22) (v:=?_) (a':=?_) #[true,true,true,false,true,true,false,false,false,false] rfl rfl (any_of HT_.out (by kernel_rfl)) (fun _ _ _ h=>h) (Or.inl ⟨by rfl,?_⟩) ?_ ?_
        rotate_left
        ·intro w'
         go_simp
         with_reducible rfl
        rotate_left
        ·simp only [Act.put,List.setIfInBounds_toArray,List.set_cons_zero,List.set_cons_succ,i64_w,i32_w]
         rfl
        refine pure_ (i:=6) (N:=some 23) (v:=?_) (a':=?_) #[true,true,true,false,true,true,true,false,false,false] rfl rfl (any_of HT_.out (by kernel_rfl)) (fun _ _ _ h=>h) (Or.inl ⟨by rfl,?_⟩) ?_ ?_
        rotate_left
        ·intro w'
         go_simp
         with_reducible rfl
        rotate_left
        ·simp only [Act.put,List.setIfInBounds_toArray,List.set_cons_zero,List.set_cons_succ,i64_w,i32_w]
         rfl
        refine take_ (i:=3) (N:=some 20) (v:=?_) (a':=?_) #[true,true,true,true,true,true,true,false,false,false] rfl rfl (take_ofW HT_.out HW_.out (by kernel_rfl)) (fun _ _ _ h=>h) (Or.inl ⟨by rfl,?_⟩) hHeld ?_ ?_
        rotate_left
        ·rintro w' ⟨s0,s1,s2,s3⟩
         go_simp
         with_reducible rfl
        rotate_left
        ·simp only [Act.put,List.setIfInBounds_toArray,List.set_cons_zero,List.set_cons_succ,i64_w,i32_w]
         rfl
        refine take_ (i:=7) (N:=some 24) (v:=?_) (a':=?_) #[true,true,true,true,true,true,true,true,false,false] rfl rfl (take_ofW HT_.out HW_.out (by kernel_rfl)) (fun _ _ _ h=>h) (Or.inl ⟨by rfl,?_⟩) hHeld ?_ ?_
        rotate_left
        ·rintro w' ⟨s0,s1,s2,s3⟩
         go_simp
         with_reducible rfl
        rotate_left
        ·simp only [Act.put,List.setIfInBounds_toArray,List.set_cons_zero,List.set_cons_succ,i64_w,i32_w]
         rfl
        refine one_ (i:=8) (N:=some 25) #[true,true,true,true,true,true,true,true,true,false] rfl rfl (one_of HT_.out (by kernel_rfl)) (by decide) (fun K hK=>?_)
        refine goes_ Try.func109 (by kernel_rfl) rfl #[.agg #[.string ((rd_T86 l0 A2).f0),.int .i64 ((rd_T86 l0 A2).f1)],.agg #[.string ((rd_T86 l1 A2).f0),.int .i64 ((rd_T86 l1 A2).f1)]] (by rfl) rfl rfl ml ?_
        with_reducible refine (laws_eqSeen.calls ((rd_T86 l0 A2).f0) ((rd_T86 l0 A2).f1) ((rd_T86 l1 A2).f0) ((rd_T86 l1 A2).f1) true _ A7.out).mono ?_
        rintro e w10 ⟨rfl,hb⟩
        refine ⟨_,rfl,?_⟩
        replace HB:=bs0 HB hb
        (try clear hb)
        (try clear hb2)
        (try clear hk)
        (try clear hi)
        refine hK.out _ _ ⟨((HB.out.cell (World.block_lt_of_cell? w _ hw101_0)).trans hw101_0),((HB.out.cell (World.block_lt_of_cell? w _ hw101_1)).trans hw101_1),((HB.out.cell (World.block_lt_of_cell? w _ hw102_0)).trans hw102_0),((HB.out.cell (World.block_lt_of_cell? w _ hw102_1)).trans hw102_1)⟩ (fun hHeld=>?_)
        clear hK K
        refine norm_ (a':=?_) ?_ ?_
        rotate_left
        ·show Act.put _ (some 25) _=_
         simp only [Act.put,List.setIfInBounds_toArray,List.set_cons_zero,List.set_cons_succ,i64_w,i32_w]
         rfl
        refine pure_ (i:=9) (N:=some 26) (v:=?_) (a':=?_) #[true,true,true,true,true,true,true,true,true,true] rfl rfl (any_of HT_.out (by kernel_rfl)) (fun _ _ _ h=>h) (Or.inl ⟨by rfl,?_⟩) ?_ ?_
        rotate_left
        ·intro w'
         go_simp
         with_reducible rfl
        rotate_left
        ·simp only [Act.put,List.setIfInBounds_toArray,List.set_cons_zero,List.set_cons_succ,i64_w,i32_w]
         rfl
        refine done_ (done_of HT_.out (by kernel_rfl)) ?_
        try go_wp2
        go_roundg k1
        case measure=>have:=HK1.out;omega
        case rel=>exact ⟨(wrap64 (A2 + 1)),(by first|rfl|(simp;done)|(simp [*];done)),H',⟨by have:=HK1.out;omega⟩,⟨by exact tb HB⟩⟩
       ·replace c8:=Bool.eq_false_iff.mpr c8
        subst c8
        have H1:(some false)=some r:=by rw [if_neg (show ¬ (false=true) by decide)] at H;exact H
        clear H;have H:=H1;clear H1
        obtain rfl:=Option.some.inj H
        try go_wp2
        replace HB:=Aside0.mk (below_drew1 HB.out)
        have p101:0≤(A2:Int):=od
        have q101:A2 < (l0.length:Int):=od
        obtain ⟨ad101,e101,hx101_0,hx101_1⟩:=at_T86 HR0.out A2 p101 q101
        have hw101_1:=hx101_1;have hw101_0:=hx101_0
        cases e101
        replace hx101_0:=(HB.out.cell (World.block_lt_of_cell? w _ hx101_0)).trans hx101_0
        replace hx101_1:=(HB.out.cell (World.block_lt_of_cell? w _ hx101_1)).trans hx101_1
        replace p101:=eq_true p101
        replace q101:=eq_true q101
        have p102:0≤(A2:Int):=od
        have q102:A2 < (l1.length:Int):=od
        obtain ⟨ad102,e102,hx102_0,hx102_1⟩:=at_T86 HR1.out A2 p102 q102
        have hw102_1:=hx102_1;have hw102_0:=hx102_0
        cases e102
        replace hx102_0:=(HB.out.cell (World.block_lt_of_cell? w _ hx102_0)).trans hx102_0
        replace hx102_1:=(HB.out.cell (World.block_lt_of_cell? w _ hx102_1)).trans hx102_1
        replace p102:=eq_true p102
        replace q102:=eq_true q102
        refine start_ (n:=10) (S:=fun w'=>w'.cell? (ad101.add ((A2).toNat * 2))=some (.string ((rd_T86 l0 A2).f0))∧w'.cell? ⟨(ad101.add ((A2).toNat * 2)).block,(ad101.add ((A2).toNat * 2)).off + 1,none⟩=some (.int .i64 ((rd_T86 l0 A2).f1))∧w'.cell? (ad102.add ((A2).toNat * 2))=some (.string ((rd_T86 l1 A2).f0))∧w'.cell? ⟨(ad102.add ((A2).toNat * 2)).block,(ad102.add ((A2).toNat * 2)).off + 1,none⟩=some (.int .i64 ((rd_T86 l1 A2).f1))) (ds:=[]) #[false,false,false,false,false,false,false,false,false,false] (by kernel_rfl) rfl rfl ⟨((HB.out.cell (World.block_lt_of_cell? w _ hw101_0)).trans hw101_0),((HB.out.cell (World.block_lt_of_cell? w _ hw101_1)).trans hw101_1),((HB.out.cell (World.block_lt_of_cell? w _ hw102_0)).trans hw102_0),((HB.out.cell (World.block_lt_of_cell? w _ hw102_1)).trans hw102_1)⟩ (fun hHeld=>?_);refine with_tabW laws_eqSeenS.tab6 laws_eqSeenS.bits6 (fun HT_ HW_=>?_)
        generalize wr.drew=w11 at HB hx101_0 hx101_1 hx102_0 hx102_1 hHeld ⊢
        refine pure_ (i:=0) (N:=some 17) (v:=?_) (a':=?_) #[true,false,false,false,false,false,false,false,false,false] rfl rfl (any_of HT_.out (by kernel_rfl)) (fun _ _ _ h=>h) (Or.inl ⟨by rfl,?_⟩) ?_ ?_
        rotate_left
        ·intro w'
         go_simp
         with_reducible rfl
        rotate_left
        ·simp only [Act.put,List.setIfInBounds_toArray,List.set_cons_zero,List.set_cons_succ,i64_w,i32_w]
         rfl
        refine pure_ (i:=1) (N:=some 18) (v:=?_) (a':=?_) #[true,true,false,false,false,false,false,false,false,false] rfl rfl (any_of HT_.out (by kernel_rfl)) (fun _ _ _ h=>h) (Or.inl ⟨by rfl,?_⟩) ?_ ?_
        rotate_left
        ·intro w'
         go_simp
         with_reducible rfl
        rotate_left
        ·simp only [Act.put,List.setIfInBounds_toArray,List.set_cons_zero,List.set_cons_succ,i64_w,i32_w]
         rfl
        refine pure_ (i:=2) (N:=some 19) (v:=?_) (a':=?_) #[true,true,true,false,false,false,false,false,false,false] rfl rfl (any_of HT_.out (by kernel_rfl)) (fun _ _ _ h=>h) (Or.inl ⟨by rfl,?_⟩) ?_ ?_
        rotate_left
        ·intro w'
         go_simp
         with_reducible rfl
        rotate_left
        ·simp only [Act.put,List.setIfInBounds_toArray,List.set_cons_zero,List.set_cons_succ,i64_w,i32_w]
         rfl
        refine pure_ (i:=4) (N:=some 21) (v:=?_) (a':=?_) #[true,true,true,false,true,false,false,false,false,false] rfl rfl (any_of HT_.out (by kernel_rfl)) (fun _ _ _ h=>h) (Or.inl ⟨by rfl,?_⟩) ?_ ?_
        rotate_left
        ·intro w'
         go_simp
         with_reducible rfl
        rotate_left
        ·simp only [Act.put,List.setIfInBounds_toArray,List.set_cons_zero,List.set_cons_succ,i64_w,i32_w]
         rfl
        refine pure_ (i:=5) (N:=some 22) (v:=?_) (a':=?_) #[true,true,true,false,true,true,false,false,false,false] rfl rfl (any_of HT_.out (by kernel_rfl)) (fun _ _ _ h=>h) (Or.inl ⟨by rfl,?_⟩) ?_ ?_
        rotate_left
        ·intro w'
         go_simp
         with_reducible rfl
        rotate_left
        ·simp only [Act.put,List.setIfInBounds_toArray,List.set_cons_zero,List.set_cons_succ,i64_w,i32_w]
         rfl
        refine pure_ (i:=6) (N:=some 23) (v:=?_) (a':=?_) #[true,true,true,false,true,true,true,false,false,false] rfl rfl (any_of HT_.out (by kernel_rfl)) (fun _ _ _ h=>h) (Or.inl ⟨by rfl,?_⟩) ?_ ?_
        rotate_left
        ·intro w'
         go_simp
         with_reducible rfl
        rotate_left
        ·simp only [Act.put,List.setIfInBounds_toArray,List.set_cons_zero,List.set_cons_succ,i64_w,i32_w]
         rfl
        refine take_ (i:=3) (N:=some 20) (v:=?_) (a':=?_) #[true,true,true,true,true,true,true,false,false,false] rfl rfl (take_ofW HT_.out HW_.out (by kernel_rfl)) (fun _ _ _ h=>h) (Or.inl ⟨by rfl,?_⟩) hHeld ?_ ?_
        rotate_left
        ·rintro w' ⟨s0,s1,s2,s3⟩
         go_simp
         with_reducible rfl
        rotate_left
        ·simp only [Act.put,List.setIfInBounds_toArray,List.set_cons_zero,List.set_cons_succ,i64_w,i32_w]
         rfl
        refine take_ (i:=7) (N:=some 24) (v:=?_) (a':=?_) #[true,true,true,true,true,true,true,true,false,false] rfl rfl (take_ofW HT_.out HW_.out (by kernel_rfl)) (fun _ _ _ h=>h) (Or.inl ⟨by rfl,?_⟩) hHeld ?_ ?_
        rotate_left
        ·rintro w' ⟨s0,s1,s2,s3⟩
         go_simp
         with_reducible rfl
        rotate_left
        ·simp only [Act.put,List.setIfInBounds_toArray,List.set_cons_zero,List.set_cons_succ,i64_w,i32_w]
         rfl
        refine one_ (i:=8) (N:=some 25) #[true,true,true,true,true,true,true,true,true,false] rfl rfl (one_of HT_.out (by kernel_rfl)) (by decide) (fun K hK=>?_)
        refine goes_ Try.func109 (by kernel_rfl) rfl #[.agg #[.string ((rd_T86 l0 A2).f0),.int .i64 ((rd_T86 l0 A2).f1)],.agg #[.string ((rd_T86 l1 A2).f0),.int .i64 ((rd_T86 l1 A2).f1)]] (by rfl) rfl rfl ml ?_
        with_reducible refine (laws_eqSeen.calls ((rd_T86 l0 A2).f0) ((rd_T86 l0 A2).f1) ((rd_T86 l1 A2).f0) ((rd_T86 l1 A2).f1) false _ A7.out).mono ?_
        rintro e w12 ⟨rfl,hb⟩
        refine ⟨_,rfl,?_⟩
        replace HB:=bs0 HB hb
        (try clear hb)
        (try clear hb2)
        (try clear hk)
        (try clear hi)
        refine hK.out _ _ ⟨((HB.out.cell (World.block_lt_of_cell? w _ hw101_0)).trans hw101_0),((HB.out.cell (World.block_lt_of_cell? w _ hw101_1)).trans hw101_1),((HB.out.cell (World.block_lt_of_cell? w _ hw102_0)).trans hw102_0),((HB.out.cell (World.block_lt_of_cell? w _ hw102_1)).trans hw102_1)⟩ (fun hHeld=>?_)
        clear hK K
        refine norm_ (a':=?_) ?_ ?_
        rotate_left
        ·show Act.put _ (some 25) _=_
         simp only [Act.put,List.setIfInBounds_toArray,List.set_cons_zero,List.set_cons_succ,i64_w,i32_w]
         rfl
        refine pure_ (i:=9) (N:=some 26) (v:=?_) (a':=?_) #[true,true,true,true,true,true,true,true,true,true] rfl rfl (any_of HT_.out (by kernel_rfl)) (fun _ _ _ h=>h) (Or.inl ⟨by rfl,?_⟩) ?_ ?_
        rotate_left
        ·intro w'
         go_simp
         with_reducible rfl
        rotate_left
        ·simp only [Act.put,List.setIfInBounds_toArray,List.set_cons_zero,List.set_cons_succ,i64_w,i32_w]
         rfl
        refine done_ (done_of HT_.out (by kernel_rfl)) ?_
        try go_wp2
        go_ret
        exact ⟨er,tb HB⟩
      ·rw [if_neg c6] at H
       exact absurd H (by simp)
     ·rw [if_neg c5] at H
      exact absurd H (by simp)
    ·rw [if_neg c4] at H
     have c4b0:decide (A2 < (l0.length:Int))=false:=decide_eq_false c4;clear c4
     obtain rfl:=Option.some.inj H
     go_wp2
     go_ret
     exact ⟨er,tb HB⟩
 ·rw [if_neg c3] at H
  have c3b0:((l0.length:Int) == (l1.length:Int))=false:=beq_eq_false_iff_ne.mpr c3;have c3b1:((l0.length:Int) != (l1.length:Int))=true:=bne_iff_ne.mpr c3
  have c3b2:(l0.length == l1.length)=false:=by first|simpa using c3|(simp at c3 ⊢;omega)
  obtain rfl:=Option.some.inj H
  go_enter Try.func66,Try.ntmps66
  go_wp2
  go_ret
  exact ⟨er,tb HB⟩
end Go.Proofs.Ytlpfmhikahlcoaa.G
namespace Go.Proofs.Ytlpfmhikahlcoaa.G
open Go.Proofs.Ytlpfmhikahlcoaa.Sh
open Go.RowKit Go.Proofs.YtlpfmhikahlcoaaW.PrintWords Go.Proofs.YtlpfmhikahlcoaaW.PrintLast Go.Proofs.YtlpfmhikahlcoaaW.PrintMore
attribute [local go_sem] max2_int min2_int max_two min_two max_three min_three max_four min_four
set_option linter.unusedVariables false
set_option linter.unusedSimpArgs false
def laws_eqTable.f (A2:Int) (A3:ByteArray) (a1_0:Int) (a1_1:ByteArray):Option (Bool):=if A2=a1_0 then (if A3.toList=a1_1.toList then (some true) else (some false)) else (some false)
set_option maxHeartbeats 8000000 in
set_option maxRecDepth 100000 in
theorem laws_eqTable.calls (A2:Int) (A3:ByteArray) (a1_0:Int) (a1_1:ByteArray) (r:Bool) (w:World) (h:laws_eqTable.f A2 A3 a1_0 a1_1=some r) :
    Calls Try.prog 37 #[.agg #[.int .i64 A2,.string A3],.agg #[.int .i64 a1_0,.string a1_1]] w fun e w'=>e = .returned (.bool r)∧Below w.heap.size w w':=by
  have hu29:=Try.underlying29
  have HB:=Aside0.mk (Below.refl w.heap.size w)
  have H:(if A2=a1_0 then (if A3.toList=a1_1.toList then (some true) else (some false)) else (some false))=some r:=h
  clear h
  by_cases c3:A2=a1_0
  · rw [if_pos c3] at H
    have c3b0:(A2 == a1_0)=true:=beq_iff_eq.mpr c3
    have c3b1:(A2 != a1_0)=false:=bne_eq_false_iff_eq.mpr c3
    clear c3
    by_cases c4:A3.toList=a1_1.toList
    · rw [if_pos c4] at H
      have c4b0:(A3.toList == a1_1.toList)=true:=beq_iff_eq.mpr c4
      have c4b1:(A3.toList != a1_1.toList)=false:=bne_eq_false_iff_eq.mpr c4
      clear c4
      obtain rfl:=Option.some.inj H
      go_enter Try.func37,Try.ntmps37
      go_wp2_with (first|((with_reducible refine gate_dst (N:=2) rfl ?_);refine bx (N:=2) (cs:=#[.int .i64 A2,.string A3]) (t:=29) ?_;intro A0 hg w5 hbox hb;have A1:=Aside0.mk (hbox);have A8:=Aside0.mk ((by rw [hg];exact (below_size (tb HB)):w.heap.size≤A0));have A9:=Aside0.mk ((by rw [hg];exact (below_size (tb HB)):w.heap.size≤A0));replace HB:=Aside0.mk (below_step (tb HB) hb);clear hb hbox hg)|((with_reducible refine gate_dst (N:=3) rfl ?_);refine bx (N:=3) (cs:=#[.int .i64 a1_0,.string a1_1]) (t:=29) ?_;intro A4 hg w6 hbox hb;have A7:=Aside0.mk (hbox);have Aa:=Aside0.mk ((by rw [hg];exact (below_size (tb HB)):w.heap.size≤A4));have Ab:=Aside0.mk ((by rw [hg];exact (below_size (tb HB)):w.heap.size≤A4));replace HB:=Aside0.mk (below_step (tb HB) hb);have A5:=Aside0.mk ((by rw [hg];exact Nat.ne_of_lt (blk_lt (g:=A0) (o := .cells #[.int .i64 A2,.string A3] 29 (0,0)) (dr A1)):A0≠A4));have A6:=Aside0.mk ((by rw [hg];exact Nat.ne_of_gt (blk_lt (g:=A0) (o := .cells #[.int .i64 A2,.string A3] 29 (0,0)) (dr A1)):A4≠A0));replace A1:=Aside0.mk (blk_below (g:=A0) (o := .cells #[.int .i64 A2,.string A3] 29 (0,0)) (dr A1) hb);clear hb hbox hg;have hnb7:=A5.out;have hnc7:=A6.out;have hcz8__:=c2_ A1;have hfz8__:=f_ A1;have hcz9__:=c2_ A7;have hfz9__:=f_ A7))
      go_ret
      exact ⟨er,tb HB⟩
    · rw [if_neg c4] at H
      have c4b0:(A3.toList == a1_1.toList)=false:=beq_eq_false_iff_ne.mpr c4
      have c4b1:(A3.toList != a1_1.toList)=true:=bne_iff_ne.mpr c4
      obtain rfl:=Option.some.inj H
      go_enter Try.func37,Try.ntmps37
      go_wp2_with (first|((with_reducible refine gate_dst (N:=2) rfl ?_);refine bx (N:=2) (cs:=#[.int .i64 A2,.string A3]) (t:=29) ?_;intro A0 hg w10 hbox hb;have A1:=Aside0.mk (hbox);have A8:=Aside0.mk ((by rw [hg];exact (below_size (tb HB)):w.heap.size≤A0));have A9:=Aside0.mk ((by rw [hg];exact (below_size (tb HB)):w.heap.size≤A0));replace HB:=Aside0.mk (below_step (tb HB) hb);clear hb hbox hg)|((with_reducible refine gate_dst (N:=3) rfl ?_);refine bx (N:=3) (cs:=#[.int .i64 a1_0,.string a1_1]) (t:=29) ?_;intro A4 hg w11 hbox hb;have A7:=Aside0.mk (hbox);have Aa:=Aside0.mk ((by rw [hg];exact (below_size (tb HB)):w.heap.size≤A4));have Ab:=Aside0.mk ((by rw [hg];exact (below_size (tb HB)):w.heap.size≤A4));replace HB:=Aside0.mk (below_step (tb HB) hb);have A5:=Aside0.mk ((by rw [hg];exact Nat.ne_of_lt (blk_lt (g:=A0) (o := .cells #[.int .i64 A2,.string A3] 29 (0,0)) (dr A1)):A0≠A4));have A6:=Aside0.mk ((by rw [hg];exact Nat.ne_of_gt (blk_lt (g:=A0) (o := .cells #[.int .i64 A2,.string A3] 29 (0,0)) (dr A1)):A4≠A0));replace A1:=Aside0.mk (blk_below (g:=A0) (o := .cells #[.int .i64 A2,.string A3] 29 (0,0)) (dr A1) hb);clear hb hbox hg;have hnb12:=A5.out;have hnc12:=A6.out;have hcz13__:=c2_ A1;have hfz13__:=f_ A1;have hcz14__:=c2_ A7;have hfz14__:=f_ A7))
      go_ret
      exact ⟨er,tb HB⟩
  · rw [if_neg c3] at H
    have c3b0:(A2 == a1_0)=false:=beq_eq_false_iff_ne.mpr c3
    have c3b1:(A2 != a1_0)=true:=bne_iff_ne.mpr c3
    obtain rfl:=Option.some.inj H
    go_enter Try.func37,Try.ntmps37
    go_wp2_with (first|((with_reducible refine gate_dst (N:=2) rfl ?_);refine bx (N:=2) (cs:=#[.int .i64 A2,.string A3]) (t:=29) ?_;intro A0 hg w15 hbox hb;have A1:=Aside0.mk (hbox);have A8:=Aside0.mk ((by rw [hg];exact (below_size (tb HB)):w.heap.size≤A0));have A9:=Aside0.mk ((by rw [hg];exact (below_size (tb HB)):w.heap.size≤A0));replace HB:=Aside0.mk (below_step (tb HB) hb);clear hb hbox hg)|((with_reducible refine gate_dst (N:=3) rfl ?_);refine bx (N:=3) (cs:=#[.int .i64 a1_0,.string a1_1]) (t:=29) ?_;intro A4 hg w16 hbox hb;have A7:=Aside0.mk (hbox);have Aa:=Aside0.mk ((by rw [hg];exact (below_size (tb HB)):w.heap.size≤A4));have Ab:=Aside0.mk ((by rw [hg];exact (below_size (tb HB)):w.heap.size≤A4));replace HB:=Aside0.mk (below_step (tb HB) hb);have A5:=Aside0.mk ((by rw [hg];exact Nat.ne_of_lt (blk_lt (g:=A0) (o := .cells #[.int .i64 A2,.string A3] 29 (0,0)) (dr A1)):A0≠A4));have A6:=Aside0.mk ((by rw [hg];exact Nat.ne_of_gt (blk_lt (g:=A0) (o := .cells #[.int .i64 A2,.string A3] 29 (0,0)) (dr A1)):A4≠A0));replace A1:=Aside0.mk (blk_below (g:=A0) (o := .cells #[.int .i64 A2,.string A3] 29 (0,0)) (dr A1) hb);clear hb hbox hg;have hnb17:=A5.out;have hnc17:=A6.out;have hcz18__:=c2_ A1;have hfz18__:=f_ A1;have hcz19__:=c2_ A7;have hfz19__:=f_ A7))
    go_ret
    exact ⟨er,tb HB⟩
end Go.Proofs.Ytlpfmhikahlcoaa.G
